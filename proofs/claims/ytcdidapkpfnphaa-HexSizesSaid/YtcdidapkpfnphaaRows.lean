/-
  No cell of these rows narrows 'for every input' (looked for: loops, veiled, ifaces, maps, wideKeys, modest, calm, conditions, laid).
  DERIVED. THE GIVEN ROWS OF THIS SEAT. 11 by the template 'for every input the law returns true; each argument reads behind the call as it read before'; 0 by the template 'total and deterministic' (their statements: YtcdidapkpfnphaaTotals.lean).
  GIVEN WITH THE SEED: the statements are not yours to turn. If you find one false, say at which input.
  Laid BY PROGRAM, IN A SANDBOX (cutbox-rows.mjs): the forced cells as the released guide's own fill.sh prints them over the translation 946f54da6c608f46… (all of the seat's roots in one cut). By AI agents, Wed Nov 11 2026. No macro, syntax, notation, axiom, sorry.
-/
import Derived.Test.YtcdidapkpfnphaaChecked
import GoSem.Claim
import GoSem.ClaimJoined
import GoSem.ClaimMapViews
import Derived.JoinedTies
import Derived.KernelRfl
namespace Go.Proofs.Ytcdidapkpfnphaa
/- THE CELL 'sum', in the pinned program and in every row, IS THE sha256 OF THE DUMP (.gsa) THAT YtcdidapkpfnphaaProg.lean LOADS. Nothing in Lean hashes anything: it is a label: what it is worth is what the hold of that sum in a sandbox is worth. -/
noncomputable def Try.pinned : Pinned := { name := "ytcdidapkpfnphaa", sum := "946f54da6c608f469ac4f4d58bfb53ed1242cde854e7087848d46e767f07dec4", checked := Try.checked }
namespace Rows
def none {H : Type} : Left H := { results := [], args := [] }

/-- 'oubliettelaw04.HexSizes': WHATEVER THE INPUT: true; the input reads as it did. -/
def hexSizesSpec : ChangeSpec := { name := "hexSizes", fn := fun _ => fun
  | [d1, d2] => { results := [.lit (.bool true)], args := [d1, d2] }
  | _ => none }
def hexSizesRow : OpenClaim := { program := "ytcdidapkpfnphaa", sum := "946f54da6c608f469ac4f4d58bfb53ed1242cde854e7087848d46e767f07dec4", func := "oubliette/oubliettelaw04.HexSizes", spec := "hexSizes", unfollowed := true, recurses := true, apart := false }
def HexSizesSaid : Prop := hexSizesRow.holds Try.pinned (OpenSpec.ofChange hexSizesSpec)

/-- ITS FALSE NEIGHBOUR: 'it returns false'. Refute it at one input. -/
def hexSizesWrong : ChangeSpec := { name := "hexSizes", fn := fun _ => fun
  | [d1, d2] => { results := [.lit (.bool false)], args := [d1, d2] }
  | _ => none }
def HexSizesWrongFalsely : Prop := hexSizesRow.holds Try.pinned (OpenSpec.ofChange hexSizesWrong)

/-- 'oubliettelaw10.GfNumbers': WHATEVER THE INPUT: true; the input reads as it did. -/
def gfNumbersSpec : ChangeSpec := { name := "gfNumbers", fn := fun _ => fun
  | [d1, d2, d3] => { results := [.lit (.bool true)], args := [d1, d2, d3] }
  | _ => none }
def gfNumbersRow : OpenClaim := { program := "ytcdidapkpfnphaa", sum := "946f54da6c608f469ac4f4d58bfb53ed1242cde854e7087848d46e767f07dec4", func := "oubliette/oubliettelaw10.GfNumbers", spec := "gfNumbers", apart := false }
def GfNumbersSaid : Prop := gfNumbersRow.holds Try.pinned (OpenSpec.ofChange gfNumbersSpec)

/-- ITS FALSE NEIGHBOUR: 'it returns false'. Refute it at one input. -/
def gfNumbersWrong : ChangeSpec := { name := "gfNumbers", fn := fun _ => fun
  | [d1, d2, d3] => { results := [.lit (.bool false)], args := [d1, d2, d3] }
  | _ => none }
def GfNumbersWrongFalsely : Prop := gfNumbersRow.holds Try.pinned (OpenSpec.ofChange gfNumbersWrong)

/-- 'oubliettelaw10.GfBoxes': WHATEVER THE INPUT: true; the input reads as it did. -/
def gfBoxesSpec : ChangeSpec := { name := "gfBoxes", fn := fun _ => fun
  | [d1, d2] => { results := [.lit (.bool true)], args := [d1, d2] }
  | _ => none }
def gfBoxesRow : OpenClaim := { program := "ytcdidapkpfnphaa", sum := "946f54da6c608f469ac4f4d58bfb53ed1242cde854e7087848d46e767f07dec4", func := "oubliette/oubliettelaw10.GfBoxes", spec := "gfBoxes", unfollowed := true, recurses := true, apart := false }
def GfBoxesSaid : Prop := gfBoxesRow.holds Try.pinned (OpenSpec.ofChange gfBoxesSpec)

/-- ITS FALSE NEIGHBOUR: 'it returns false'. Refute it at one input. -/
def gfBoxesWrong : ChangeSpec := { name := "gfBoxes", fn := fun _ => fun
  | [d1, d2] => { results := [.lit (.bool false)], args := [d1, d2] }
  | _ => none }
def GfBoxesWrongFalsely : Prop := gfBoxesRow.holds Try.pinned (OpenSpec.ofChange gfBoxesWrong)

/-- 'oubliettelaw10.GfField': WHATEVER THE INPUT: true; the input reads as it did. -/
def gfFieldSpec : ChangeSpec := { name := "gfField", fn := fun _ => fun
  | [d1, d2, d3, d4] => { results := [.lit (.bool true)], args := [d1, d2, d3, d4] }
  | _ => none }
def gfFieldRow : OpenClaim := { program := "ytcdidapkpfnphaa", sum := "946f54da6c608f469ac4f4d58bfb53ed1242cde854e7087848d46e767f07dec4", func := "oubliette/oubliettelaw10.GfField", spec := "gfField", unfollowed := true, recurses := true, apart := false }
def GfFieldSaid : Prop := gfFieldRow.holds Try.pinned (OpenSpec.ofChange gfFieldSpec)

/-- ITS FALSE NEIGHBOUR: 'it returns false'. Refute it at one input. -/
def gfFieldWrong : ChangeSpec := { name := "gfField", fn := fun _ => fun
  | [d1, d2, d3, d4] => { results := [.lit (.bool false)], args := [d1, d2, d3, d4] }
  | _ => none }
def GfFieldWrongFalsely : Prop := gfFieldRow.holds Try.pinned (OpenSpec.ofChange gfFieldWrong)

/-- 'oubliettelaw04.HexBack': WHATEVER THE INPUT: true; the input reads as it did. -/
def hexBackSpec : ChangeSpec := { name := "hexBack", fn := fun _ => fun
  | [d1, d2, d3] => { results := [.lit (.bool true)], args := [d1, d2, d3] }
  | _ => none }
def hexBackRow : OpenClaim := { program := "ytcdidapkpfnphaa", sum := "946f54da6c608f469ac4f4d58bfb53ed1242cde854e7087848d46e767f07dec4", func := "oubliette/oubliettelaw04.HexBack", spec := "hexBack", unfollowed := true, recurses := true, apart := false }
def HexBackSaid : Prop := hexBackRow.holds Try.pinned (OpenSpec.ofChange hexBackSpec)

/-- ITS FALSE NEIGHBOUR: 'it returns false'. Refute it at one input. -/
def hexBackWrong : ChangeSpec := { name := "hexBack", fn := fun _ => fun
  | [d1, d2, d3] => { results := [.lit (.bool false)], args := [d1, d2, d3] }
  | _ => none }
def HexBackWrongFalsely : Prop := hexBackRow.holds Try.pinned (OpenSpec.ofChange hexBackWrong)

/-- 'oubliettelaw11.AesSteps': WHATEVER THE INPUT: true; the input reads as it did. -/
def aesStepsSpec : ChangeSpec := { name := "aesSteps", fn := fun _ => fun
  | [d1, d2] => { results := [.lit (.bool true)], args := [d1, d2] }
  | _ => none }
def aesStepsRow : OpenClaim := { program := "ytcdidapkpfnphaa", sum := "946f54da6c608f469ac4f4d58bfb53ed1242cde854e7087848d46e767f07dec4", func := "oubliette/oubliettelaw11.AesSteps", spec := "aesSteps", unfollowed := true, recurses := true, apart := false }
def AesStepsSaid : Prop := aesStepsRow.holds Try.pinned (OpenSpec.ofChange aesStepsSpec)

/-- ITS FALSE NEIGHBOUR: 'it returns false'. Refute it at one input. -/
def aesStepsWrong : ChangeSpec := { name := "aesSteps", fn := fun _ => fun
  | [d1, d2] => { results := [.lit (.bool false)], args := [d1, d2] }
  | _ => none }
def AesStepsWrongFalsely : Prop := aesStepsRow.holds Try.pinned (OpenSpec.ofChange aesStepsWrong)

/-- 'oubliettelaw11.AesBlocks': WHATEVER THE INPUT: true; the input reads as it did. -/
def aesBlocksSpec : ChangeSpec := { name := "aesBlocks", fn := fun _ => fun
  | [d1, d2] => { results := [.lit (.bool true)], args := [d1, d2] }
  | _ => none }
def aesBlocksRow : OpenClaim := { program := "ytcdidapkpfnphaa", sum := "946f54da6c608f469ac4f4d58bfb53ed1242cde854e7087848d46e767f07dec4", func := "oubliette/oubliettelaw11.AesBlocks", spec := "aesBlocks", unfollowed := true, recurses := true, apart := false }
def AesBlocksSaid : Prop := aesBlocksRow.holds Try.pinned (OpenSpec.ofChange aesBlocksSpec)

/-- ITS FALSE NEIGHBOUR: 'it returns false'. Refute it at one input. -/
def aesBlocksWrong : ChangeSpec := { name := "aesBlocks", fn := fun _ => fun
  | [d1, d2] => { results := [.lit (.bool false)], args := [d1, d2] }
  | _ => none }
def AesBlocksWrongFalsely : Prop := aesBlocksRow.holds Try.pinned (OpenSpec.ofChange aesBlocksWrong)

/-- 'oubliettelaw11.AesBack': WHATEVER THE INPUT: true; the input reads as it did. -/
def aesBackSpec : ChangeSpec := { name := "aesBack", fn := fun _ => fun
  | [d1, d2, d3] => { results := [.lit (.bool true)], args := [d1, d2, d3] }
  | _ => none }
def aesBackRow : OpenClaim := { program := "ytcdidapkpfnphaa", sum := "946f54da6c608f469ac4f4d58bfb53ed1242cde854e7087848d46e767f07dec4", func := "oubliette/oubliettelaw11.AesBack", spec := "aesBack", unfollowed := true, recurses := true, apart := false }
def AesBackSaid : Prop := aesBackRow.holds Try.pinned (OpenSpec.ofChange aesBackSpec)

/-- ITS FALSE NEIGHBOUR: 'it returns false'. Refute it at one input. -/
def aesBackWrong : ChangeSpec := { name := "aesBack", fn := fun _ => fun
  | [d1, d2, d3] => { results := [.lit (.bool false)], args := [d1, d2, d3] }
  | _ => none }
def AesBackWrongFalsely : Prop := aesBackRow.holds Try.pinned (OpenSpec.ofChange aesBackWrong)

/-- 'oubliettelaw12.CtrRows': WHATEVER THE INPUT: true; the input reads as it did. -/
def ctrRowsSpec : ChangeSpec := { name := "ctrRows", fn := fun _ => fun
  | [d1, d2, d3, d4, d5] => { results := [.lit (.bool true)], args := [d1, d2, d3, d4, d5] }
  | _ => none }
def ctrRowsRow : OpenClaim := { program := "ytcdidapkpfnphaa", sum := "946f54da6c608f469ac4f4d58bfb53ed1242cde854e7087848d46e767f07dec4", func := "oubliette/oubliettelaw12.CtrRows", spec := "ctrRows", unfollowed := true, recurses := true, apart := false }
def CtrRowsSaid : Prop := ctrRowsRow.holds Try.pinned (OpenSpec.ofChange ctrRowsSpec)

/-- ITS FALSE NEIGHBOUR: 'it returns false'. Refute it at one input. -/
def ctrRowsWrong : ChangeSpec := { name := "ctrRows", fn := fun _ => fun
  | [d1, d2, d3, d4, d5] => { results := [.lit (.bool false)], args := [d1, d2, d3, d4, d5] }
  | _ => none }
def CtrRowsWrongFalsely : Prop := ctrRowsRow.holds Try.pinned (OpenSpec.ofChange ctrRowsWrong)

/-- 'oubliettelaw12.CtrTexts': WHATEVER THE INPUT: true; the input reads as it did. -/
def ctrTextsSpec : ChangeSpec := { name := "ctrTexts", fn := fun _ => fun
  | [d1, d2, d3] => { results := [.lit (.bool true)], args := [d1, d2, d3] }
  | _ => none }
def ctrTextsRow : OpenClaim := { program := "ytcdidapkpfnphaa", sum := "946f54da6c608f469ac4f4d58bfb53ed1242cde854e7087848d46e767f07dec4", func := "oubliette/oubliettelaw12.CtrTexts", spec := "ctrTexts", unfollowed := true, recurses := true, apart := false }
def CtrTextsSaid : Prop := ctrTextsRow.holds Try.pinned (OpenSpec.ofChange ctrTextsSpec)

/-- ITS FALSE NEIGHBOUR: 'it returns false'. Refute it at one input. -/
def ctrTextsWrong : ChangeSpec := { name := "ctrTexts", fn := fun _ => fun
  | [d1, d2, d3] => { results := [.lit (.bool false)], args := [d1, d2, d3] }
  | _ => none }
def CtrTextsWrongFalsely : Prop := ctrTextsRow.holds Try.pinned (OpenSpec.ofChange ctrTextsWrong)

/-- 'oubliettelaw12.CtrBack': WHATEVER THE INPUT: true; the input reads as it did. -/
def ctrBackSpec : ChangeSpec := { name := "ctrBack", fn := fun _ => fun
  | [d1, d2, d3, d4] => { results := [.lit (.bool true)], args := [d1, d2, d3, d4] }
  | _ => none }
def ctrBackRow : OpenClaim := { program := "ytcdidapkpfnphaa", sum := "946f54da6c608f469ac4f4d58bfb53ed1242cde854e7087848d46e767f07dec4", func := "oubliette/oubliettelaw12.CtrBack", spec := "ctrBack", unfollowed := true, recurses := true, apart := false }
def CtrBackSaid : Prop := ctrBackRow.holds Try.pinned (OpenSpec.ofChange ctrBackSpec)

/-- ITS FALSE NEIGHBOUR: 'it returns false'. Refute it at one input. -/
def ctrBackWrong : ChangeSpec := { name := "ctrBack", fn := fun _ => fun
  | [d1, d2, d3, d4] => { results := [.lit (.bool false)], args := [d1, d2, d3, d4] }
  | _ => none }
def CtrBackWrongFalsely : Prop := ctrBackRow.holds Try.pinned (OpenSpec.ofChange ctrBackWrong)

/- THE SECOND FORM. 'bulk': how many values and letters a reading holds, each counted each time it is reached (what is shared counts as often as it is met; a slice's spare places count too). A statement '..UptoSaid' is the law's where the arguments, and the package variables that the reading takes, are together of bulk at most 1048576: NARROWER than '..Said'. Prove '..Said' where nothing that the law and all that it calls make is longer than what came in: it says more and counts as full. Else prove '..UptoSaid'. A law counts once. -/
mutual
def uptoBulk {H : Type} : DataW H → Nat
  | .lit (.string bytes) => bytes.length + 1
  | .lit _ => 1
  | .nil => 1
  | .ptr d => uptoBulk d + 1
  | .slice elems spare => uptoBulkAll elems + uptoBulkAll spare + 1
  | .agg parts => uptoBulkAll parts + 1
  | .iface _ d => uptoBulk d + 1
  | .map entries => uptoBulkEntries entries + 1
  | .held _ => 1
def uptoBulkAll {H : Type} : List (DataW H) → Nat
  | [] => 0
  | d :: r => uptoBulk d + uptoBulkAll r
def uptoBulkEntries {H : Type} : List (Lit × DataW H) → Nat
  | [] => 0
  | x :: r => uptoBulkEntry x + uptoBulkEntries r
def uptoBulkEntry {H : Type} : Lit × DataW H → Nat
  | (.string bytes, d) => bytes.length + uptoBulk d + 1
  | (_, d) => uptoBulk d + 1
 end
def uptoSmall : (H : Type) → List (DataW H) → Bool := fun _ ds => decide (uptoBulkAll ds ≤ 1048576)
def OpenSpec.upto (s : _root_.Go.ChangeSpec) : _root_.Go.OpenSpec := { _root_.Go.OpenSpec.ofChange s with cond := some uptoSmall }

/-- 'oubliettelaw04.HexSizes', WHERE WHAT IT READS IS OF BULK AT MOST 1048576: true; the input reads as it did. -/
def hexSizesUptoRow : OpenClaim := { program := "ytcdidapkpfnphaa", sum := "946f54da6c608f469ac4f4d58bfb53ed1242cde854e7087848d46e767f07dec4", func := "oubliette/oubliettelaw04.HexSizes", spec := "hexSizes", unfollowed := true, recurses := true, apart := false, narrowed := true }
def HexSizesUptoSaid : Prop := hexSizesUptoRow.holds Try.pinned (OpenSpec.upto hexSizesSpec)

/-- 'oubliettelaw10.GfNumbers', WHERE WHAT IT READS IS OF BULK AT MOST 1048576: true; the input reads as it did. -/
def gfNumbersUptoRow : OpenClaim := { program := "ytcdidapkpfnphaa", sum := "946f54da6c608f469ac4f4d58bfb53ed1242cde854e7087848d46e767f07dec4", func := "oubliette/oubliettelaw10.GfNumbers", spec := "gfNumbers", apart := false, narrowed := true }
def GfNumbersUptoSaid : Prop := gfNumbersUptoRow.holds Try.pinned (OpenSpec.upto gfNumbersSpec)

/-- 'oubliettelaw10.GfBoxes', WHERE WHAT IT READS IS OF BULK AT MOST 1048576: true; the input reads as it did. -/
def gfBoxesUptoRow : OpenClaim := { program := "ytcdidapkpfnphaa", sum := "946f54da6c608f469ac4f4d58bfb53ed1242cde854e7087848d46e767f07dec4", func := "oubliette/oubliettelaw10.GfBoxes", spec := "gfBoxes", unfollowed := true, recurses := true, apart := false, narrowed := true }
def GfBoxesUptoSaid : Prop := gfBoxesUptoRow.holds Try.pinned (OpenSpec.upto gfBoxesSpec)

/-- 'oubliettelaw10.GfField', WHERE WHAT IT READS IS OF BULK AT MOST 1048576: true; the input reads as it did. -/
def gfFieldUptoRow : OpenClaim := { program := "ytcdidapkpfnphaa", sum := "946f54da6c608f469ac4f4d58bfb53ed1242cde854e7087848d46e767f07dec4", func := "oubliette/oubliettelaw10.GfField", spec := "gfField", unfollowed := true, recurses := true, apart := false, narrowed := true }
def GfFieldUptoSaid : Prop := gfFieldUptoRow.holds Try.pinned (OpenSpec.upto gfFieldSpec)

/-- 'oubliettelaw04.HexBack', WHERE WHAT IT READS IS OF BULK AT MOST 1048576: true; the input reads as it did. -/
def hexBackUptoRow : OpenClaim := { program := "ytcdidapkpfnphaa", sum := "946f54da6c608f469ac4f4d58bfb53ed1242cde854e7087848d46e767f07dec4", func := "oubliette/oubliettelaw04.HexBack", spec := "hexBack", unfollowed := true, recurses := true, apart := false, narrowed := true }
def HexBackUptoSaid : Prop := hexBackUptoRow.holds Try.pinned (OpenSpec.upto hexBackSpec)

/-- 'oubliettelaw11.AesSteps', WHERE WHAT IT READS IS OF BULK AT MOST 1048576: true; the input reads as it did. -/
def aesStepsUptoRow : OpenClaim := { program := "ytcdidapkpfnphaa", sum := "946f54da6c608f469ac4f4d58bfb53ed1242cde854e7087848d46e767f07dec4", func := "oubliette/oubliettelaw11.AesSteps", spec := "aesSteps", unfollowed := true, recurses := true, apart := false, narrowed := true }
def AesStepsUptoSaid : Prop := aesStepsUptoRow.holds Try.pinned (OpenSpec.upto aesStepsSpec)

/-- 'oubliettelaw11.AesBlocks', WHERE WHAT IT READS IS OF BULK AT MOST 1048576: true; the input reads as it did. -/
def aesBlocksUptoRow : OpenClaim := { program := "ytcdidapkpfnphaa", sum := "946f54da6c608f469ac4f4d58bfb53ed1242cde854e7087848d46e767f07dec4", func := "oubliette/oubliettelaw11.AesBlocks", spec := "aesBlocks", unfollowed := true, recurses := true, apart := false, narrowed := true }
def AesBlocksUptoSaid : Prop := aesBlocksUptoRow.holds Try.pinned (OpenSpec.upto aesBlocksSpec)

/-- 'oubliettelaw11.AesBack', WHERE WHAT IT READS IS OF BULK AT MOST 1048576: true; the input reads as it did. -/
def aesBackUptoRow : OpenClaim := { program := "ytcdidapkpfnphaa", sum := "946f54da6c608f469ac4f4d58bfb53ed1242cde854e7087848d46e767f07dec4", func := "oubliette/oubliettelaw11.AesBack", spec := "aesBack", unfollowed := true, recurses := true, apart := false, narrowed := true }
def AesBackUptoSaid : Prop := aesBackUptoRow.holds Try.pinned (OpenSpec.upto aesBackSpec)

/-- 'oubliettelaw12.CtrRows', WHERE WHAT IT READS IS OF BULK AT MOST 1048576: true; the input reads as it did. -/
def ctrRowsUptoRow : OpenClaim := { program := "ytcdidapkpfnphaa", sum := "946f54da6c608f469ac4f4d58bfb53ed1242cde854e7087848d46e767f07dec4", func := "oubliette/oubliettelaw12.CtrRows", spec := "ctrRows", unfollowed := true, recurses := true, apart := false, narrowed := true }
def CtrRowsUptoSaid : Prop := ctrRowsUptoRow.holds Try.pinned (OpenSpec.upto ctrRowsSpec)

/-- 'oubliettelaw12.CtrTexts', WHERE WHAT IT READS IS OF BULK AT MOST 1048576: true; the input reads as it did. -/
def ctrTextsUptoRow : OpenClaim := { program := "ytcdidapkpfnphaa", sum := "946f54da6c608f469ac4f4d58bfb53ed1242cde854e7087848d46e767f07dec4", func := "oubliette/oubliettelaw12.CtrTexts", spec := "ctrTexts", unfollowed := true, recurses := true, apart := false, narrowed := true }
def CtrTextsUptoSaid : Prop := ctrTextsUptoRow.holds Try.pinned (OpenSpec.upto ctrTextsSpec)

/-- 'oubliettelaw12.CtrBack', WHERE WHAT IT READS IS OF BULK AT MOST 1048576: true; the input reads as it did. -/
def ctrBackUptoRow : OpenClaim := { program := "ytcdidapkpfnphaa", sum := "946f54da6c608f469ac4f4d58bfb53ed1242cde854e7087848d46e767f07dec4", func := "oubliette/oubliettelaw12.CtrBack", spec := "ctrBack", unfollowed := true, recurses := true, apart := false, narrowed := true }
def CtrBackUptoSaid : Prop := ctrBackUptoRow.holds Try.pinned (OpenSpec.upto ctrBackSpec)

end Rows
end Go.Proofs.Ytcdidapkpfnphaa
