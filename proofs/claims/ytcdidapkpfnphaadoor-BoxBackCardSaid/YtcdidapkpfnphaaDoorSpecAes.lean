/- What the functions of the cipher come to, in plain Lean: states are functions of the place. -/
import Derived.Test.YtcdidapkpfnphaaDoorSpec
namespace Go.Proofs.YtcdidapkpfnphaaDoor
def subF (s : Nat → UInt8) (i : Nat) : UInt8 := boxT (s i)
def subR (s : Nat → UInt8) (i : Nat) : UInt8 := boxR (s i)
def shiftF (s : Nat → UInt8) (i : Nat) : UInt8 := s ((i + 4 * (i % 4)) % 16)
def shiftR (s : Nat → UInt8) (i : Nat) : UInt8 := s (4 * ((i / 4 + i % 4) % 4) + i % 4)
def mixF (s : Nat → UInt8) (i : Nat) : UInt8 := colG (fun j => s (4 * (i / 4) + j)) (i % 4)
def mixR (s : Nat → UInt8) (i : Nat) : UInt8 := colR (fun j => s (4 * (i / 4) + j)) (i % 4)
def addF (s k : Nat → UInt8) (i : Nat) : UInt8 := s i ^^^ k i
/-- The state after r rounds. -/
def encSt (k s : Nat → UInt8) : Nat → Nat → UInt8
  | 0 => addF s (fun i => k (0 * 16 + i))
  | r + 1 => addF (if r + 1 < 14 then mixF (shiftF (subF (encSt k s r))) else shiftF (subF (encSt k s r))) (fun i => k ((r + 1) * 16 + i))
def encF (k s : Nat → UInt8) : Nat → UInt8 := encSt k s 14
def encStR (k s : Nat → UInt8) : Nat → Nat → UInt8
  | 0 => addF s (fun i => k (0 * 16 + i))
  | r + 1 => addF (if r + 1 < 14 then mixR (shiftR (subR (encStR k s r))) else shiftR (subR (encStR k s r))) (fun i => k ((r + 1) * 16 + i))
def encR (k s : Nat → UInt8) : Nat → UInt8 := encStR k s 14
/-- A word of the schedule, turned. -/
def rotF (x : Nat → UInt8) (j : Nat) : UInt8 := x ((j + 1) % 4)
def turnW (box : UInt8 → UInt8) (pow : Nat → UInt8) (x : Nat → UInt8) (i j : Nat) : UInt8 :=
  if i % 8 = 0 then (if j = 0 then box (rotF x j) ^^^ pow (redN (i / 8 - 1)) else box (rotF x j)) else if i % 4 = 0 then box (x j) else x j
def turnF : (Nat → UInt8) → Nat → Nat → UInt8 := turnW boxT (powG 2)
def turnR : (Nat → UInt8) → Nat → Nat → UInt8 := turnW boxR (powN 2)
/-- The schedule with its first i words filled. -/
def wGen (turn : (Nat → UInt8) → Nat → Nat → UInt8) (key : Nat → UInt8) : Nat → Nat → UInt8
  | 0 => fun _ => 0
  | i + 1 => fun q => if i * 4 ≤ q ∧ q < i * 4 + 4 then (if i < 8 then key q else wGen turn key i ((i - 8) * 4 + (q - i * 4)) ^^^ turn (fun j => wGen turn key i ((i - 1) * 4 + j)) i (q - i * 4)) else wGen turn key i q
def keyF (l : List UInt8) (q : Nat) : UInt8 := l.getD q 0
def schF (l : List UInt8) : Nat → UInt8 := if l.length = 32 then wGen turnF (keyF l) 60 else fun _ => 0
def schR (l : List UInt8) : Nat → UInt8 := if l.length = 32 then wGen turnR (keyF l) 60 else fun _ => 0
def schFault (l : List UInt8) : Nat := if l.length = 32 then 0 else 4
def exKey (k : Nat) : List UInt8 := (List.range k).map UInt8.ofNat
theorem exKey_succ (k : Nat) : exKey k ++ [UInt8.ofNat k] = exKey (k + 1) := by simp [exKey, List.range_succ]
theorem exKey_len (k : Nat) : (exKey k).length = k := by simp [exKey]
def exB (i : Nat) : UInt8 := UInt8.ofNat (17 * i)
end Go.Proofs.YtcdidapkpfnphaaDoor
