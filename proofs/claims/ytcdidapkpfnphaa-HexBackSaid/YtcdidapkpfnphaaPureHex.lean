/- Plain laws of texts in sixteen signs. -/
import Derived.Test.YtcdidapkpfnphaaSpecHex
namespace Go.Proofs.Ytcdidapkpfnphaa
theorem short_le (l : List UInt8) : (shortL l).length ≤ 8 := by
  unfold shortL
  split
  · rw [hexL_len]; omega
  · rw [List.length_append, hexL_len, List.length_take]; simp; omega
theorem rows_bad {l : List UInt8} {w : Nat} (h : ¬ (1 ≤ w ∧ w ≤ 64)) : rowsL l w = [] := by rw [rowsL, if_neg h]
theorem rows_len {l : List UInt8} {w : Nat} (h1 : 1 ≤ w) (h2 : w ≤ 64) : (rowsL l w).length = chunks l.length w := by rw [rowsL, if_pos ⟨h1, h2⟩]; simp
theorem rows_nth {l : List UInt8} {w k : Nat} (h1 : 1 ≤ w) (h2 : w ≤ 64) (hk : k < (rowsL l w).length) : (rowsL l w).getD k [] = hexL (chunk l w k) := by
  rw [rows_len h1 h2] at hk
  rw [rowsL, if_pos ⟨h1, h2⟩]
  simp [List.getD_eq_getElem?_getD, hk]
theorem row_len {l : List UInt8} {w k : Nat} (h1 : 1 ≤ w) (h2 : w ≤ 64) (hk : k < (rowsL l w).length) : ((rowsL l w).getD k []).length = 2 * min w (l.length - k * w) := by
  rw [rows_nth h1 h2 hk, hexL_len, chunk, List.length_take, List.length_drop]
theorem row_le {l : List UInt8} {w k : Nat} (h1 : 1 ≤ w) (h2 : w ≤ 64) (hk : k < (rowsL l w).length) : ¬ ((rowsL l w).getD k []).length > 2 * w := by
  rw [row_len h1 h2 hk]; omega
theorem row_pos {l : List UInt8} {w k : Nat} (h1 : 1 ≤ w) (h2 : w ≤ 64) (hk : k < (rowsL l w).length) : ¬ ((rowsL l w).getD k []).length = 0 := by
  have h3 := chunks_at h1 (by rw [rows_len h1 h2] at hk; exact hk)
  rw [row_len h1 h2 hk]; omega
theorem row_full {l : List UInt8} {w k : Nat} (h1 : 1 ≤ w) (h2 : w ≤ 64) (hk : k + 1 < (rowsL l w).length) : ((rowsL l w).getD k []).length = 2 * w := by
  have h3 := chunks_at h1 (by rw [rows_len h1 h2] at hk; exact hk)
  rw [Nat.add_one_mul] at h3
  rw [row_len h1 h2 (by omega)]; omega
/-! Texts read as they were printed, and printed as they were read. -/
theorem all8h {p : UInt8 → Prop} (h : ∀ i : Fin 256, p (UInt8.ofFin i)) (a : UInt8) : p a := by
  have := h ⟨a.toNat, a.toNat_lt⟩
  simpa using this
theorem hex_hi (c : UInt8) : isF (hexD (c >>> UInt8.ofNat 4)) = true ∧ isF (hexD (c &&& 15)) = true ∧ valF (hexD (c >>> UInt8.ofNat 4)) <<< UInt8.ofNat 4 ||| valF (hexD (c &&& 15)) = c :=
  all8h (p := fun c => isF (hexD (c >>> UInt8.ofNat 4)) = true ∧ isF (hexD (c &&& 15)) = true ∧ valF (hexD (c >>> UInt8.ofNat 4)) <<< UInt8.ofNat 4 ||| valF (hexD (c &&& 15)) = c) (by decide +kernel) c
theorem val_lt (c : UInt8) : isF c = true → (valF c).toNat < 16 ∧ hexD (valF c) = c := all8h (p := fun c => isF c = true → (valF c).toNat < 16 ∧ hexD (valF c) = c) (by decide +kernel) c
theorem nib : ∀ a b : Fin 16, (UInt8.ofNat a.val <<< UInt8.ofNat 4 ||| UInt8.ofNat b.val) >>> UInt8.ofNat 4 = UInt8.ofNat a.val ∧ (UInt8.ofNat a.val <<< UInt8.ofNat 4 ||| UInt8.ofNat b.val) &&& 15 = UInt8.ofNat b.val := by decide +kernel
theorem nib' {a b : UInt8} (ha : a.toNat < 16) (hb : b.toNat < 16) : (a <<< UInt8.ofNat 4 ||| b) >>> UInt8.ofNat 4 = a ∧ (a <<< UInt8.ofNat 4 ||| b) &&& 15 = b := by
  have h := nib ⟨a.toNat, ha⟩ ⟨b.toNat, hb⟩
  simpa using h
theorem hexL_nth (l : List UInt8) : ∀ i, i < l.length → (hexL l).getD (2 * i) 0 = hexD (l.getD i 0 >>> UInt8.ofNat 4) ∧ (hexL l).getD (2 * i + 1) 0 = hexD (l.getD i 0 &&& 15) := by
  induction l with
  | nil => intro i h; simp at h
  | cons c l ih =>
    intro i h
    have e : hexL (c :: l) = hexD (c >>> UInt8.ofNat 4) :: hexD (c &&& 15) :: hexL l := rfl
    rw [e]
    cases i with
    | zero => exact ⟨rfl, rfl⟩
    | succ i =>
      have h2 := ih i (by simpa using h)
      rw [show 2 * (i + 1) = 2 * i + 1 + 1 from by omega]
      simpa using h2
theorem par_back (l : List UInt8) : parOk (hexL l) ∧ parA (hexL l) = l := by
  have hok : parOk (hexL l) := by
    refine ⟨fun j hj => ?_, by rw [hexL_len]; omega⟩
    rw [hexL_len] at hj
    have h := hexL_nth l (j / 2) (by omega)
    have h2 := hex_hi (l.getD (j / 2) 0)
    by_cases hp : j % 2 = 0
    · rw [show j = 2 * (j / 2) from by omega, h.1]; exact h2.1
    · rw [show j = 2 * (j / 2) + 1 from by omega, h.2]; exact h2.2.1
  refine ⟨hok, ?_⟩
  rw [parA, if_pos hok, hexL_len, show 2 * l.length / 2 = l.length from by omega]
  apply List.ext_getElem
  · rw [parN_len]
  · intro i h1 h2
    have h := hexL_nth l i h2
    have h3 := (hex_hi (l.getD i 0)).2.2
    rw [← h.1, ← h.2] at h3
    simp only [parN, List.getElem_map, List.getElem_range]
    rw [h3]
    simp [List.getD_eq_getElem?_getD, h2]
theorem par_print {l : List UInt8} (h : parOk l) : hexL (parA l) = l := by
  rw [parA, if_pos h]
  have h2 := h.2
  apply List.ext_getElem
  · rw [hexL_len, parN_len]; omega
  · intro j h1 h3
    have hi : j / 2 < l.length / 2 := by omega
    have hn := hexL_nth (parN l (l.length / 2)) (j / 2) (by rw [parN_len]; exact hi)
    have e : (parN l (l.length / 2)).getD (j / 2) 0 = valF (l.getD (2 * (j / 2)) 0) <<< UInt8.ofNat 4 ||| valF (l.getD (2 * (j / 2) + 1) 0) := by
      simp [parN, List.getD_eq_getElem?_getD, hi]
    have v1 := val_lt _ (h.1 (2 * (j / 2)) (by omega))
    have v2 := val_lt _ (h.1 (2 * (j / 2) + 1) (by omega))
    have hb := nib' v1.1 v2.1
    rw [e, hb.1, hb.2, v1.2, v2.2] at hn
    have g1 : (hexL (parN l (l.length / 2))).getD j 0 = l.getD j 0 := by
      by_cases hp : j % 2 = 0
      · have := hn.1; rwa [show 2 * (j / 2) = j from by omega] at this
      · have := hn.2; rwa [show 2 * (j / 2) + 1 = j from by omega] at this
    simpa [List.getD_eq_getElem?_getD, h1, h3] using g1
theorem par_none {l : List UInt8} (h : ¬ parOk l) : parA l = [] := by rw [parA, if_neg h]
theorem parF_ok {l : List UInt8} : parF l = 0 ↔ parOk l := by unfold parF; split <;> simp_all
/-! Rows together are the whole. -/
theorem chunk_flat (l : List UInt8) (w : Nat) : ∀ k, ((List.range k).map (fun i => hexL (chunk l w i))).flatten = hexL (l.take (k * w))
  | 0 => by simp [hexL]
  | k + 1 => by
    rw [List.range_succ, List.map_append, List.flatten_append, chunk_flat l w k, Nat.add_one_mul, List.take_add, hexL_app]
    simp [chunk]
theorem rows_all {l : List UInt8} {w : Nat} (h1 : 1 ≤ w) (h2 : w ≤ 64) : (rowsL l w).flatten = hexL l := by
  rw [rowsL, if_pos ⟨h1, h2⟩, chunk_flat]
  congr 1
  refine List.take_of_length_le ?_
  have := chunks_ge (len := l.length) (w := w) (k := chunks l.length w) h1
  exact Nat.le_of_not_lt fun h => by have := chunks_lt h1 h; omega
theorem flat_next {l : List (List UInt8)} {k : Nat} (h : k < l.length) : (l.take k).flatten ++ l.getD k [] = (l.take (k + 1)).flatten := by
  rw [take_next l [] h, List.flatten_append]
  simp
theorem flat_le (l : List (List UInt8)) (k : Nat) : ((l.take (k + 1)).flatten).length ≤ l.flatten.length := by
  have h : l.flatten = (l.take (k + 1)).flatten ++ (l.drop (k + 1)).flatten := by rw [← List.flatten_append, List.take_append_drop]
  rw [h, List.length_append]
  omega
theorem rows_or (l : List UInt8) (w : Nat) : (rowsL l w).flatten = if 1 ≤ w ∧ w ≤ 64 then hexL l else [] := by
  split
  · rename_i h; exact rows_all h.1 h.2
  · rename_i h; rw [rows_bad h]; rfl
theorem rows_le (l : List UInt8) (w : Nat) : (rowsL l w).length ≤ l.length := by
  by_cases h : 1 ≤ w ∧ w ≤ 64
  · rw [rows_len h.1 h.2]; exact chunks_le h.1
  · rw [rows_bad h]; exact Nat.zero_le _
theorem flat_add {l : List UInt8} {w k : Nat} (h : k < (rowsL l w).length) : ((rowsL l w).take k).flatten.length + ((rowsL l w).getD k []).length ≤ 2 * l.length := by
  have h1 := flat_le (rowsL l w) k
  rw [← flat_next h, List.length_append, rows_or] at h1
  have h2 : (if 1 ≤ w ∧ w ≤ 64 then hexL l else []).length ≤ 2 * l.length := by
    split
    · rw [hexL_len]; omega
    · exact Nat.zero_le _
  omega
end Go.Proofs.Ytcdidapkpfnphaa
