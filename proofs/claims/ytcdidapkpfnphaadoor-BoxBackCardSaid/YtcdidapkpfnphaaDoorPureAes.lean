/- Plain laws of the cipher: the program's steps, schedule and rounds are the document's; steps undone; the chapter's example. -/
import Derived.Test.YtcdidapkpfnphaaDoorPureGf
import Derived.Test.YtcdidapkpfnphaaDoorSpecAes
namespace Go.Proofs.YtcdidapkpfnphaaDoor
theorem sub_eq (s : Nat → UInt8) (i : Nat) : subF s i = subR s i := box_eq _
theorem shift_ix : ∀ i : Fin 16, (i.val + 4 * (i.val % 4)) % 16 = 4 * ((i.val / 4 + i.val % 4) % 4) + i.val % 4 := by decide
theorem shift_eq (s : Nat → UInt8) (i : Nat) (hi : i < 16) : shiftF s i = shiftR s i := congrArg s (shift_ix ⟨i, hi⟩)
theorem mix_eq (s : Nat → UInt8) (i : Nat) : mixF s i = mixR s i := col_eq _ _ (Nat.mod_lt _ (by decide))
theorem colG_congr {f g : Nat → UInt8} (h : ∀ i, i < 4 → f i = g i) (i : Nat) : colG f i = colG g i := by
  simp only [colG]
  rw [h (i % 4) (Nat.mod_lt _ (by decide)), h 0 (by decide), h 1 (by decide), h 2 (by decide), h 3 (by decide), h ((i + 1) % 4) (Nat.mod_lt _ (by decide))]
theorem sub_congr {s t : Nat → UInt8} (h : ∀ i, i < 16 → s i = t i) (i : Nat) (hi : i < 16) : subF s i = subF t i := congrArg boxT (h i hi)
theorem shift_congr {s t : Nat → UInt8} (h : ∀ i, i < 16 → s i = t i) (i : Nat) (hi : i < 16) : shiftF s i = shiftF t i := h _ (Nat.mod_lt _ (by decide))
theorem mix_congr {s t : Nat → UInt8} (h : ∀ i, i < 16 → s i = t i) (i : Nat) (hi : i < 16) : mixF s i = mixF t i := colG_congr (fun j hj => h _ (by omega)) _
theorem add_congr {s t k l : Nat → UInt8} (h : ∀ i, i < 16 → s i = t i) (hk : ∀ i, i < 16 → k i = l i) (i : Nat) (hi : i < 16) : addF s k i = addF t l i := by
  rw [addF, addF, h i hi, hk i hi]
theorem enc_st_eq {k k' s : Nat → UInt8} (h : ∀ q, q < 240 → k q = k' q) : ∀ r, r ≤ 14 → ∀ i, i < 16 → encSt k s r i = encStR k' s r i
  | 0, _ => add_congr (fun _ _ => rfl) fun i hi => h _ (by omega)
  | r + 1, hr => by
    intro i hi
    have ih := enc_st_eq (s := s) h r (by omega)
    rw [encSt, encStR]
    have h1 : ∀ i, i < 16 → shiftF (subF (encSt k s r)) i = shiftR (subR (encStR k' s r)) i := fun i hi => by
      rw [shift_congr (t := subR (encStR k' s r)) (fun i hi => by rw [sub_congr ih i hi, sub_eq]) i hi, shift_eq _ _ hi]
    by_cases hc : r + 1 < 14
    · rw [if_pos hc, if_pos hc]
      exact add_congr (fun i hi => by rw [mix_congr h1 i hi, mix_eq]) (fun i hi => h _ (by omega)) i hi
    · rw [if_neg hc, if_neg hc]
      exact add_congr h1 (fun i hi => h _ (by omega)) i hi
theorem enc_eq {k k' s : Nat → UInt8} (h : ∀ q, q < 240 → k q = k' q) (i : Nat) (hi : i < 16) : encF k s i = encR k' s i := enc_st_eq h 14 (Nat.le_refl _) i hi
theorem turn_eq : turnF = turnR := by
  funext x i j
  simp only [turnF, turnR, turnW, box_eq, powG_eq 2 (redN_le _)]
theorem sch_eq (l : List UInt8) : schF l = schR l := by rw [schF, schR, turn_eq]
/-! Steps undone. -/
def shX (i : Nat) : Nat := (i + 4 * (i % 4)) % 16
theorem shift4_ix : ∀ i : Fin 16, shX (shX (shX (shX i.val))) = i.val := by decide
theorem shift4 (s : Nat → UInt8) (i : Nat) (hi : i < 16) : shiftF (shiftF (shiftF (shiftF s))) i = s i := (rfl : _ = s (shX (shX (shX (shX i))))).trans (congrArg s (shift4_ix ⟨i, hi⟩))
theorem mix_col (s : Nat → UInt8) (c j : Nat) (hj : j < 4) : mixF s (4 * c + j) = colG (fun j => s (4 * c + j)) j := by
  rw [mixF, show (4 * c + j) / 4 = c from by omega, show (4 * c + j) % 4 = j from by omega]
theorem mix4 (s : Nat → UInt8) (i : Nat) (_hi : i < 16) : mixF (mixF (mixF (mixF s))) i = s i := by
  have e : i = 4 * (i / 4) + i % 4 := by omega
  have hj : i % 4 < 4 := Nat.mod_lt _ (by decide)
  generalize i / 4 = c at e
  generalize i % 4 = j at e hj
  subst e
  rw [mix_col _ _ _ hj, colG_congr (g := colG (colG (colG fun j => s (4 * c + j)))), colG4 _ _ hj]
  intro j hj
  rw [mix_col _ _ _ hj]
  apply colG_congr
  intro j hj
  rw [mix_col _ _ _ hj]
  apply colG_congr
  intro j hj
  rw [mix_col _ _ _ hj]
theorem add2 (s k : Nat → UInt8) (i : Nat) : addF (addF s k) k i = s i := by simp [addF, UInt8.xor_assoc]
def unbox (c : UInt8) : UInt8 := UInt8.ofNat (boxL.findIdx (· == c))
theorem unbox_ok (a : UInt8) : unbox (boxT a) = a := all8 (p := fun a => unbox (boxT a) = a) (by decide +kernel) a
theorem add_inj {s t k : Nat → UInt8} (h : ∀ i, i < 16 → addF s k i = addF t k i) (i : Nat) (hi : i < 16) : s i = t i := by
  rw [← add2 s k i, ← add2 t k i]
  exact add_congr h (fun _ _ => rfl) i hi
theorem mix_inj {s t : Nat → UInt8} (h : ∀ i, i < 16 → mixF s i = mixF t i) (i : Nat) (hi : i < 16) : s i = t i := by
  rw [← mix4 s i hi, ← mix4 t i hi]
  exact mix_congr (mix_congr (mix_congr h)) i hi
theorem shift_inj {s t : Nat → UInt8} (h : ∀ i, i < 16 → shiftF s i = shiftF t i) (i : Nat) (hi : i < 16) : s i = t i := by
  rw [← shift4 s i hi, ← shift4 t i hi]
  exact shift_congr (shift_congr (shift_congr h)) i hi
theorem sub_inj {s t : Nat → UInt8} (h : ∀ i, i < 16 → subF s i = subF t i) (i : Nat) (hi : i < 16) : s i = t i := by
  rw [← unbox_ok (s i), ← unbox_ok (t i)]
  exact congrArg unbox (h i hi)
theorem enc_st_inj {k s t : Nat → UInt8} : ∀ r, (∀ i, i < 16 → encSt k s r i = encSt k t r i) → ∀ i, i < 16 → s i = t i
  | 0, h => add_inj h
  | r + 1, h => by
    refine enc_st_inj (k := k) r ?_
    rw [encSt, encSt] at h
    have h1 := add_inj h
    by_cases hc : r + 1 < 14
    · rw [if_pos hc, if_pos hc] at h1
      exact sub_inj (shift_inj (mix_inj h1))
    · rw [if_neg hc, if_neg hc] at h1
      exact sub_inj (shift_inj h1)
theorem enc_st_congr {k k' s t : Nat → UInt8} (hk : ∀ q, q < 240 → k q = k' q) (h : ∀ i, i < 16 → s i = t i) : ∀ r, r ≤ 14 → ∀ i, i < 16 → encSt k s r i = encSt k' t r i
  | 0, _ => add_congr h fun _ _ => hk _ (by omega)
  | r + 1, hr => by
    have ih := enc_st_congr hk h r (by omega)
    intro i hi
    rw [encSt, encSt]
    by_cases hc : r + 1 < 14
    · rw [if_pos hc, if_pos hc]
      exact add_congr (mix_congr (shift_congr (sub_congr ih))) (fun _ _ => hk _ (by omega)) i hi
    · rw [if_neg hc, if_neg hc]
      exact add_congr (shift_congr (sub_congr ih)) (fun _ _ => hk _ (by omega)) i hi
/-- Blocks are encrypted alike if and only if they are alike. -/
theorem enc_iff {k s t : Nat → UInt8} : (∀ i, i < 16 → encF k s i = encF k t i) ↔ ∀ i, i < 16 → s i = t i :=
  ⟨enc_st_inj 14, fun h => enc_st_congr (fun _ _ => rfl) h 14 (Nat.le_refl _)⟩
/-! The chapter's example. -/
def exKL : List UInt8 := [0, 1, 2, 3, 4, 5, 6, 7, 8, 9, 10, 11, 12, 13, 14, 15, 16, 17, 18, 19, 20, 21, 22, 23, 24, 25, 26, 27, 28, 29, 30, 31, 165, 115, 194, 159, 161, 118, 196, 152, 169, 127, 206, 147, 165, 114, 192, 156, 22, 81, 168, 205, 2, 68, 190, 218, 26, 93, 164, 193, 6, 64, 186, 222, 174, 135, 223, 240, 15, 241, 27, 104, 166, 142, 213, 251, 3, 252, 21, 103, 109, 225, 241, 72, 111, 165, 79, 146, 117, 248, 235, 83, 115, 184, 81, 141, 198, 86, 130, 127, 201, 167, 153, 23, 111, 41, 76, 236, 108, 213, 89, 139, 61, 226, 58, 117, 82, 71, 117, 231, 39, 191, 158, 180, 84, 7, 207, 57, 11, 220, 144, 95, 194, 123, 9, 72, 173, 82, 69, 164, 193, 135, 28, 47, 69, 245, 166, 96, 23, 178, 211, 135, 48, 13, 77, 51, 100, 10, 130, 10, 124, 207, 247, 28, 190, 180, 254, 84, 19, 230, 187, 240, 210, 97, 167, 223, 240, 26, 250, 254, 231, 168, 41, 121, 215, 165, 100, 74, 179, 175, 230, 64, 37, 65, 254, 113, 155, 245, 0, 37, 136, 19, 187, 213, 90, 114, 28, 10, 78, 90, 102, 153, 169, 242, 79, 224, 126, 87, 43, 170, 205, 248, 205, 234, 36, 252, 121, 204, 191, 9, 121, 233, 55, 26, 194, 60, 109, 104, 222, 54]
def exK (q : Nat) : UInt8 := exKL.getD q 0
def exSL : List (List UInt8) := [[0, 16, 32, 48, 64, 80, 96, 112, 128, 144, 160, 176, 192, 208, 224, 240],
  [79, 99, 118, 6, 67, 224, 170, 133, 239, 167, 33, 50, 1, 164, 231, 5],
  [24, 89, 251, 194, 138, 28, 0, 160, 120, 237, 138, 173, 196, 47, 97, 9],
  [151, 92, 102, 193, 203, 159, 63, 168, 169, 58, 40, 223, 142, 225, 15, 99],
  [28, 5, 242, 113, 164, 23, 224, 79, 249, 33, 197, 193, 4, 112, 21, 84],
  [195, 87, 170, 225, 27, 69, 183, 176, 162, 199, 189, 40, 168, 220, 153, 250],
  [127, 7, 65, 67, 203, 78, 36, 62, 193, 12, 129, 93, 131, 117, 213, 76],
  [214, 83, 164, 105, 108, 160, 188, 15, 90, 202, 171, 93, 185, 108, 94, 125],
  [90, 168, 88, 57, 95, 210, 141, 125, 5, 225, 163, 136, 104, 243, 185, 197],
  [74, 130, 72, 81, 197, 126, 126, 71, 100, 61, 229, 12, 42, 243, 232, 201],
  [193, 73, 7, 246, 202, 59, 58, 160, 112, 233, 170, 49, 59, 82, 181, 236],
  [95, 156, 106, 191, 186, 198, 52, 170, 80, 64, 159, 167, 102, 103, 118, 83],
  [81, 102, 4, 149, 67, 83, 149, 3, 20, 251, 134, 228, 1, 146, 37, 33],
  [98, 123, 206, 185, 153, 157, 90, 170, 201, 69, 236, 244, 35, 245, 109, 165],
  [142, 162, 183, 202, 81, 103, 69, 191, 234, 252, 73, 144, 75, 73, 96, 137]]
def exS (r i : Nat) : UInt8 := (exSL.getD r []).getD i 0
theorem exK_ok : ∀ q : Fin 240, exK q.val = if q.val / 4 < 8 then keyF (exKey 32) q.val else exK ((q.val / 4 - 8) * 4 + q.val % 4) ^^^ turnF (fun j => exK ((q.val / 4 - 1) * 4 + j)) (q.val / 4) (q.val % 4) := by decide +kernel
theorem turnF_congr {x y : Nat → UInt8} (h : ∀ j, j < 4 → x j = y j) (i j : Nat) (hj : j < 4) : turnF x i j = turnF y i j := by
  simp only [turnF, turnW, rotF, h j hj, h ((j + 1) % 4) (Nat.mod_lt _ (by decide))]
theorem ex_key : ∀ i, i ≤ 60 → ∀ q, q < 4 * i → wGen turnF (keyF (exKey 32)) i q = exK q
  | 0, _, q, hq => by omega
  | i + 1, hi, q, hq => by
    have ih := ex_key i (by omega)
    simp only [wGen]
    by_cases h : i * 4 ≤ q ∧ q < i * 4 + 4
    · rw [if_pos h, exK_ok ⟨q, by omega⟩]
      have e1 : q / 4 = i := by omega
      have e2 : q % 4 = q - i * 4 := by omega
      simp only [e1, e2]
      by_cases h8 : i < 8
      · rw [if_pos h8, if_pos h8]
      · rw [if_neg h8, if_neg h8, ih _ (by omega), turnF_congr (fun j hj => ih _ (by omega)) i (q - i * 4) (by omega)]
    · rw [if_neg h]
      exact ih q (by omega)
theorem exS_0 : ∀ i : Fin 16, addF exB (fun i => exK (0 * 16 + i)) i.val = exS 0 i.val := by decide +kernel
theorem exS_step : ∀ r : Fin 14, ∀ i : Fin 16, addF (if r.val + 1 < 14 then mixF (shiftF (subF (exS r.val))) else shiftF (subF (exS r.val))) (fun i => exK ((r.val + 1) * 16 + i)) i.val = exS (r.val + 1) i.val := by decide +kernel
theorem ex_st {k s : Nat → UInt8} (hk : ∀ q, q < 240 → k q = exK q) (hs : ∀ i, i < 16 → s i = exB i) : ∀ r, r ≤ 14 → ∀ i, i < 16 → encSt k s r i = exS r i
  | 0, _, i, hi => by
    rw [← exS_0 ⟨i, hi⟩]
    exact add_congr hs (fun _ _ => hk _ (by omega)) i hi
  | r + 1, hr, i, hi => by
    have ih := ex_st hk hs r (by omega)
    rw [← exS_step ⟨r, by omega⟩ ⟨i, hi⟩, encSt]
    simp only []
    by_cases hc : r + 1 < 14
    · rw [if_pos hc, if_pos hc]
      exact add_congr (mix_congr (shift_congr (sub_congr ih))) (fun _ _ => hk _ (by omega)) i hi
    · rw [if_neg hc, if_neg hc]
      exact add_congr (shift_congr (sub_congr ih)) (fun _ _ => hk _ (by omega)) i hi
theorem ex_enc {s : Nat → UInt8} (hs : ∀ i, i < 16 → s i = exB i) (i : Nat) (hi : i < 16) : encF (schF (exKey 32)) s i = exS 14 i :=
  ex_st (fun q hq => by rw [schF, if_pos (exKey_len 32)]; exact ex_key 60 (Nat.le_refl _) q (by omega)) hs 14 (Nat.le_refl _) i hi
end Go.Proofs.YtcdidapkpfnphaaDoor
