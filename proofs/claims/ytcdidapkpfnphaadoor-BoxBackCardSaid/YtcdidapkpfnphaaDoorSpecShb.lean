/- What padding, words, blocks and sums come to, in plain Lean. -/
import Derived.Test.YtcdidapkpfnphaaDoorSpecSha
import Derived.Test.YtcdidapkpfnphaaDoorLibL
namespace Go.Proofs.YtcdidapkpfnphaaDoor
open Go.RowKit
/-- The numbers of the rounds. -/
def kNs : List UInt32 := [1116352408, 1899447441, 3049323471, 3921009573, 961987163, 1508970993, 2453635748, 2870763221, 3624381080, 310598401, 607225278, 1426881987, 1925078388, 2162078206, 2614888103, 3248222580, 3835390401, 4022224774, 264347078, 604807628, 770255983, 1249150122, 1555081692, 1996064986, 2554220882, 2821834349, 2952996808, 3210313671, 3336571891, 3584528711, 113926993, 338241895, 666307205, 773529912, 1294757372, 1396182291, 1695183700, 1986661051, 2177026350, 2456956037, 2730485921, 2820302411, 3259730800, 3345764771, 3516065817, 3600352804, 4094571909, 275423344, 430227734, 506948616, 659060556, 883997877, 958139571, 1322822218, 1537002063, 1747873779, 1955562222, 2024104815, 2227730452, 2361852424, 2428436474, 2756734187, 3204031479, 3329325298]
def kT (t : Nat) : UInt32 := kNs.getD t 0
def fNs : List UInt32 := [1779033703, 3144134277, 1013904242, 2773480762, 1359893119, 2600822924, 528734635, 1541459225]
def firstF (i : Nat) : UInt32 := fNs.getD i 0
/-- The package's variable holds the numbers of the rounds. -/
def KL (w : World) : Prop := ∀ t, t < 64 → w.cell? ⟨0, t, none⟩ = some (vw (kT t))
theorem KL.below {w w' : World} (h : KL w) (hb : Below w.heap.size w w') : KL w' := fun t ht => (hb.cell (World.block_lt_of_cell? w _ (h t ht))).trans (h t ht)
theorem y_ldk {P : Program} {s : Sl} {o : Oper} {w0 : World} {L : List Own} (hk : KL w0) {x : Operand} {t k : Nat} (ho : o.op = .load t x) (ht : TOne P t) (hx : ev s x = some (.pointer (some ⟨0, k, none⟩))) (h : k < 64) : Yl P s (Mm w0 L) o (vw (kT k)) := y_ldg ho ht hx (hk k h)
/-- How many noughts are put between. -/
def zerosN (n : Nat) : Nat := (119 - n % 64) % 64
def sizeL (n : Nat) : List UInt8 := putL (UInt64.ofNat n * 8) 8
def padL (n : Nat) : List UInt8 := 128 :: (List.replicate (zerosN n) 0 ++ sizeL n)
theorem putL_len (n : UInt64) (k : Nat) : (putL n k).length = k := putN_len n k k
theorem sizeL_len (n : Nat) : (sizeL n).length = 8 := putN_len _ 8 8
theorem padL_len (n : Nat) : (padL n).length = 9 + zerosN n := by simp [padL, sizeL_len]; omega
theorem zerosN_lt (n : Nat) : zerosN n < 64 := Nat.mod_lt _ (by decide)
theorem pad_whole (n : Nat) : (n + (padL n).length) % 64 = 0 := by rw [padL_len, zerosN]; omega
def padG (n : Nat) : List UInt8 := if n ≤ 1099511627776 then padL n else []
theorem padG_le (n : Nat) : (padG n).length ≤ 72 := by
  unfold padG
  split
  · rw [padL_len]; have := zerosN_lt n; omega
  · simp
theorem conv_qw (x : UInt64) : IntKind.u32.wrap (x.toNat : Int) = ((x.toUInt32).toNat : Int) := by rw [wrapm_u32]; simp
theorem conv_wq (x : UInt32) : IntKind.u64.wrap (x.toNat : Int) = ((x.toUInt64).toNat : Int) := by rw [wrapm_u64]; have := x.toNat_lt; simp; try omega
/-- A word of the block itself. -/
def w0F (l : List UInt8) (t : Nat) : UInt32 := (getN ((l.drop (4 * t)).take 4)).toUInt32
/-- The words of a block. -/
def sch (l : List UInt8) (t : Nat) : UInt32 := if h : t < 16 then w0F l t else highW (sch l (t - 2)) + sch l (t - 7) + lowW (sch l (t - 15)) + sch l (t - 16)
termination_by t
decreasing_by all_goals omega
theorem sch_lo {l : List UInt8} {t : Nat} (h : t < 16) : sch l t = w0F l t := by rw [sch, dif_pos h]
theorem sch_hi {l : List UInt8} {t : Nat} (h : ¬ t < 16) : sch l t = highW (sch l (t - 2)) + sch l (t - 7) + lowW (sch l (t - 15)) + sch l (t - 16) := by rw [sch, dif_neg h]
def wordsF (l : List UInt8) : Nat → UInt32 := if l.length = 64 then sch l else fun _ => 0
def chW (e f g : UInt32) : UInt32 := g ^^^ e &&& (f ^^^ g)
def majW (a b c : UInt32) : UInt32 := a &&& b ||| c &&& (a ||| b)
def s1W (e : UInt32) : UInt32 := rotR e 6 ^^^ rotR e 11 ^^^ rotR e 25
def s0W (a : UInt32) : UInt32 := rotR a 2 ^^^ rotR a 13 ^^^ rotR a 22
def xW (k w : UInt32) (h : Nat → UInt32) : UInt32 := h 7 + s1W (h 4) + chW (h 4) (h 5) (h 6) + k + w
def yW (h : Nat → UInt32) : UInt32 := s0W (h 0) + majW (h 0) (h 1) (h 2)
/-- A round. -/
def rndS (k w : UInt32) (h : Nat → UInt32) (i : Nat) : UInt32 := if i = 0 then xW k w h + yW h else if i = 4 then h 3 + xW k w h else h (i - 1)
/-- So many rounds. -/
def blkS (l : List UInt8) (h : Nat → UInt32) : Nat → Nat → UInt32
  | 0 => h
  | t + 1 => rndS (kT t) (sch l t) (blkS l h t)
def cmpS (h : Nat → UInt32) (l : List UInt8) (i : Nat) : UInt32 := blkS l h 64 i + h i
def blockF (h : Nat → UInt32) (l : List UInt8) : Nat → UInt32 := if l.length = 64 then cmpS h l else h
theorem cmpS_ext {h h' : Nat → UInt32} (e : ∀ i, i < 8 → h i = h' i) (l : List UInt8) : ∀ i, i < 8 → cmpS h l i = cmpS h' l i := by
  have key : ∀ t i, i < 8 → blkS l h t i = blkS l h' t i := by
    intro t
    induction t with
    | zero => exact e
    | succ t ih =>
      intro i hi
      simp only [blkS, rndS, xW, yW, ih 0 (by omega), ih 1 (by omega), ih 2 (by omega), ih 3 (by omega), ih 4 (by omega), ih 5 (by omega), ih 6 (by omega), ih 7 (by omega), ih (i - 1) (by omega)]
  intro i hi
  rw [cmpS, cmpS, key 64 i hi, e i hi]
/-- What so many blocks of a row come to. -/
def sumS (l : List UInt8) (k : Nat) : Nat → UInt32 := (List.range k).foldl (fun h j => cmpS h (chunk l 64 j)) firstF
theorem sumS_next (l : List UInt8) (k : Nat) : sumS l (k + 1) = cmpS (sumS l k) (chunk l 64 k) := by rw [sumS, List.range_succ, List.foldl_append]; rfl
/-- The bytes of so many words. -/
def outL (h : Nat → UInt32) (k : Nat) : List UInt8 := (List.range k).flatMap fun i => putL (h i).toUInt64 4
theorem outL_next (h : Nat → UInt32) (k : Nat) : outL h k ++ putL (h k).toUInt64 4 = outL h (k + 1) := by simp [outL, List.range_succ]
theorem outL_len (h : Nat → UInt32) (k : Nat) : (outL h k).length = 4 * k := by
  induction k with
  | zero => rfl
  | succ k ih => rw [← outL_next, List.length_append, ih, putL_len]; omega
def allL (l : List UInt8) : List UInt8 := l ++ padL l.length
theorem allL_whole (l : List UInt8) : (allL l).length % 64 = 0 := by rw [allL, List.length_append]; exact pad_whole _
theorem allL_le (l : List UInt8) : (allL l).length ≤ l.length + 72 ∧ l.length + 9 ≤ (allL l).length := by
  rw [allL, List.length_append, padL_len]
  have := zerosN_lt l.length
  omega
/-- The sum of any bytes. -/
def shaL (l : List UInt8) : List UInt8 := outL (sumS (allL l) ((allL l).length / 64)) 8
theorem shaL_len (l : List UInt8) : (shaL l).length = 32 := outL_len _ 8
theorem chunk_len {l : List UInt8} {k : Nat} (h : l.length % 64 = 0) (hk : k * 64 < l.length) : (chunk l 64 k).length = 64 := by
  rw [chunk, List.length_take, List.length_drop]
  omega
theorem chunks_whole {n : Nat} (h : n % 64 = 0) : chunks n 64 = n / 64 := by unfold chunks; omega
/-! The document's own forms. -/
theorem ch_ref (e f g : UInt32) : e &&& f ^^^ ~~~e &&& g = chW e f g := by
  apply UInt32.toBitVec_inj.1
  simp only [chW, UInt32.toBitVec_xor, UInt32.toBitVec_and, UInt32.toBitVec_not]
  generalize e.toBitVec = a
  generalize f.toBitVec = b
  generalize g.toBitVec = c
  ext i hi
  simp only [BitVec.getElem_xor, BitVec.getElem_and, BitVec.getElem_not]
  cases a[i] <;> cases b[i] <;> cases c[i] <;> rfl
theorem maj_ref (x y z : UInt32) : x &&& y ^^^ x &&& z ^^^ y &&& z = majW x y z := by
  apply UInt32.toBitVec_inj.1
  simp only [majW, UInt32.toBitVec_xor, UInt32.toBitVec_and, UInt32.toBitVec_or]
  generalize x.toBitVec = a
  generalize y.toBitVec = b
  generalize z.toBitVec = c
  ext i hi
  simp only [BitVec.getElem_xor, BitVec.getElem_and, BitVec.getElem_or]
  cases a[i] <;> cases b[i] <;> cases c[i] <;> rfl
theorem rot_ref (x : UInt32) (n : Nat) : x >>> UInt32.ofNat n ||| x <<< UInt32.ofNat (32 - n) = rotR x n := UInt32.or_comm _ _
theorem blk_step {f : Nat → UInt32} {x y : UInt32} {i : Nat} (hi : i < 8) : upd (upd (fun i => if 0 + 1 ≤ i ∧ i < 0 + 1 + 7 then f (0 + (i - (0 + 1))) else f i) 0 (x + y)) 4 (upd (fun i => if 0 + 1 ≤ i ∧ i < 0 + 1 + 7 then f (0 + (i - (0 + 1))) else f i) 0 (x + y) 4 + x) i = if i = 0 then x + y else if i = 4 then f 3 + x else f (i - 1) := by
  have : i = 0 ∨ i = 1 ∨ i = 2 ∨ i = 3 ∨ i = 4 ∨ i = 5 ∨ i = 6 ∨ i = 7 := by omega
  rcases this with rfl | rfl | rfl | rfl | rfl | rfl | rfl | rfl <;> rfl
/-- What is left of a number, when so many bytes are taken off. -/
def nD (n : UInt64) (k : Nat) : UInt64 := UInt64.ofNat (n.toNat / 256 ^ k)
theorem nD_toNat (n : UInt64) (k : Nat) : (nD n k).toNat = n.toNat / 256 ^ k := by
  rw [nD, UInt64.toNat_ofNat']
  exact Nat.mod_eq_of_lt (Nat.lt_of_le_of_lt (Nat.div_le_self _ _) n.toNat_lt)
theorem nD_zero (n : UInt64) : nD n 0 = n := by apply UInt64.toNat_inj.1; rw [nD_toNat]; simp
theorem nD_next (n : UInt64) (k : Nat) : nD n k / 256 = nD n (k + 1) := by
  apply UInt64.toNat_inj.1
  rw [UInt64.toNat_div, nD_toNat, nD_toNat, Nat.div_div_eq_div_mul, Nat.pow_succ]
  rfl
theorem nD_byte (n : UInt64) {k : Nat} (h : k < 8) : (nD n k % 256).toUInt8 = (n >>> UInt64.ofNat (8 * k)).toUInt8 := by
  apply UInt8.toNat_inj.1
  rw [UInt64.toNat_toUInt8, UInt64.toNat_toUInt8, UInt64.toNat_mod, nD_toNat, UInt64.toNat_shiftRight, UInt64.toNat_ofNat']
  have h1 : 8 * k % 2 ^ 64 % 64 = 8 * k := by omega
  rw [h1, Nat.shiftRight_eq_div_pow, Nat.pow_mul]
  simp
theorem getM_next (n : UInt64) (c : UInt8) : n * 256 + c.toUInt64 = n <<< UInt64.ofNat 8 ||| c.toUInt64 := by
  apply UInt64.toBitVec_inj.1
  have e : n.toBitVec * 256#64 = n.toBitVec <<< 8 := by
    apply BitVec.eq_of_toNat_eq
    simp [BitVec.toNat_shiftLeft, Nat.shiftLeft_eq]
  have h1 : (n * 256 + c.toUInt64).toBitVec = n.toBitVec <<< 8 + c.toBitVec.setWidth 64 := by rw [← e]; rfl
  have h2 : (n <<< UInt64.ofNat 8 ||| c.toUInt64).toBitVec = n.toBitVec <<< 8 ||| c.toBitVec.setWidth 64 := by
    rw [UInt64.toBitVec_or, UInt64.toBitVec_shiftLeft]
    rfl
  rw [h1, h2]
  apply BitVec.add_eq_or_of_and_eq_zero
  ext i hi
  simp only [BitVec.getElem_and, BitVec.getElem_shiftLeft, BitVec.getElem_setWidth, BitVec.getElem_zero]
  by_cases h8 : i < 8
  · simp [h8]
  · simp [BitVec.getLsbD_of_ge c.toBitVec i (by omega)]
theorem put_step {n : UInt64} {m k : Nat} (h8 : m ≤ 8) (hk : k < m) : ns vb m (upd (fun i => if m - k ≤ i then (n >>> UInt64.ofNat (8 * (m - 1 - i))).toUInt8 else 0) (m - 1 - k) (nD n k % 256).toUInt8) = ns vb m (fun i => if m - (k + 1) ≤ i then (n >>> UInt64.ofNat (8 * (m - 1 - i))).toUInt8 else 0) := by
  apply ns_ext
  intro i hi
  unfold upd
  by_cases h : i = m - 1 - k
  · rw [if_pos h, if_pos (by omega), nD_byte n (by omega), show 8 * (m - 1 - i) = 8 * k from by omega]
  · simp only [if_neg h]
    by_cases h2 : m - k ≤ i
    · rw [if_pos h2, if_pos (by omega)]
    · rw [if_neg h2, if_neg (by omega)]
theorem put_full {n : UInt64} {m k : Nat} (h : m ≤ k) : ns vb m (fun i => if m - k ≤ i then (n >>> UInt64.ofNat (8 * (m - 1 - i))).toUInt8 else 0) = ls vb (putL n m) := by
  rw [ns_ext (g := fun i => (n >>> UInt64.ofNat (8 * (m - 1 - i))).toUInt8) fun i hi => if_pos (by omega), ls_ns]
  rfl
theorem pad_more {n k : Nat} (h : k ≤ zerosN n) (c : (n + (1 + k)) % 64 ≠ 56) : k + 1 ≤ zerosN n := by
  unfold zerosN at *
  omega
theorem pad_done {n k : Nat} (h : k ≤ zerosN n) (c : ¬ (n + (1 + k)) % 64 ≠ 56) : k = zerosN n := by
  unfold zerosN at *
  omega
theorem padG_of {n : Nat} (h : n ≤ 1099511627776) : padG n = padL n := if_pos h
theorem sum_fold (l : List UInt8) : (List.finRange (chunks (allL l).length 64)).foldl (fun hf (j : Fin (chunks (allL l).length 64)) => cmpS hf (chunk (allL l) 64 j.val)) firstF = sumS (allL l) ((allL l).length / 64) := by
  rw [sumS, ← chunks_whole (allL_whole l)]
  have h := fin_map (N := chunks (allL l).length 64) (fun j => chunk (allL l) 64 j)
  have e1 : (List.finRange (chunks (allL l).length 64)).foldl (fun hf (j : Fin (chunks (allL l).length 64)) => cmpS hf (chunk (allL l) 64 j.val)) firstF = ((List.finRange (chunks (allL l).length 64)).map fun k => chunk (allL l) 64 k.val).foldl cmpS firstF := by rw [List.foldl_map]
  rw [e1, h, List.foldl_map]
end Go.Proofs.YtcdidapkpfnphaaDoor
