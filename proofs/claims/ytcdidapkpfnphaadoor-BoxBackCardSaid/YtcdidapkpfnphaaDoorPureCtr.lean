/- Plain laws of blocks, streams and texts: the program's are the document's; a text laid twice is as it was. -/
import Derived.Test.YtcdidapkpfnphaaDoorPureAes
import Derived.Test.YtcdidapkpfnphaaDoorSpecCtr
namespace Go.Proofs.YtcdidapkpfnphaaDoor
theorem beg_ok {kl nl : List UInt8} (h : okR kl nl) : begF kl nl = 0 ∧ begK kl nl = schR kl ∧ begC nl = keyF nl := by
  obtain ⟨h1, h2⟩ := h
  refine ⟨by rw [begF, if_pos h2, schFault, if_pos h1], by rw [begK, if_pos h2, sch_eq], by rw [begC, if_pos h2]⟩
theorem beg_no {kl nl : List UInt8} (h : ¬ okR kl nl) : begF kl nl = 4 := by
  unfold begF schFault
  split
  · rename_i h2
    rw [if_neg fun h1 => h ⟨h1, h2⟩]
  · rfl
theorem atF_eq (kl nl : List UInt8) (n : Nat) : atF kl nl n = atFR kl nl n := by
  unfold atF atFR
  by_cases h : okR kl nl
  · rw [(beg_ok h).1, if_pos rfl, if_pos h]
  · rw [beg_no h, if_neg (by decide), if_neg h]
theorem atFn_eq (kl nl : List UInt8) : atFn kl nl = atFnR kl nl := by
  unfold atFn atFnR
  by_cases h : okR kl nl
  · rw [(beg_ok h).1, if_pos rfl, if_pos h]
  · rw [beg_no h, if_neg (by decide), if_neg h]
theorem at_eq (kl nl : List UInt8) (n : Nat) (i : Nat) (hi : i < 16) : atV kl nl n i = atVR kl nl n i := by
  unfold atV atVR
  by_cases h : okR kl nl
  · obtain ⟨h0, h1, h2⟩ := beg_ok h
    by_cases hn : n < 65536
    · rw [if_pos ⟨h0, hn⟩, if_pos ⟨h, hn⟩, h1, h2]
      exact enc_eq (fun _ _ => rfl) i hi
    · rw [if_neg fun h => hn h.2, if_neg fun h => hn h.2]
  · rw [if_neg (fun h2 => by have := beg_no h; omega), if_neg fun h2 => h h2.1]
theorem strF_eq (kl nl : List UInt8) (n : Nat) : strF kl nl n = strFR kl nl n := by
  unfold strF strFR
  by_cases h : okR kl nl
  · rw [(beg_ok h).1, if_pos rfl, if_pos h]
  · rw [beg_no h, if_neg (by decide), if_neg h]
theorem strL_congr {e e' : (Nat → UInt8) → Nat → UInt8} {c : Nat → UInt8} (h : ∀ s i, i < 16 → e s i = e' s i) : ∀ m, strL e c m = strL e' c m
  | 0 => rfl
  | m + 1 => by
    rw [strL, strL, strL_congr h m]
    congr 1
    exact List.map_congr_left fun i hi => h _ _ (List.mem_range.1 hi)
theorem strN_eq (kl nl : List UInt8) (n : Nat) : strN kl nl n = strNR kl nl n := by rw [strN, strNR, strF_eq]
theorem strA_eq (kl nl : List UInt8) (n : Nat) : strA kl nl n = strAR kl nl n := by
  unfold strA strAR
  rw [strF_eq]
  split
  · rename_i h
    have hok : okR kl nl := Decidable.byContradiction fun hno => by rw [strFR, if_neg hno] at h; cases h
    obtain ⟨_, h1, h2⟩ := beg_ok hok
    rw [h1, h2]
    exact strL_congr (fun s i hi => enc_eq (fun _ _ => rfl) i hi) _
  · rfl
theorem str_eq (kl nl : List UInt8) (n : Nat) : (strA kl nl n).take (strN kl nl n) = (strAR kl nl n).take (strNR kl nl n) := by rw [strA_eq, strN_eq]
theorem str_hm {kl nl : List UInt8} {n : Nat} (h : n ≤ 9223372036854775807) : ((strA kl nl n).take (strN kl nl n)).length ≤ 9223372036854775807 := by
  have h1 : strN kl nl n ≤ n := by unfold strN; split <;> omega
  rw [List.length_take]
  omega
theorem over_eq (kl nl tl : List UInt8) : over kl nl tl = overR kl nl tl := by rw [over, overR, ovS, ovSR, str_eq]
theorem over_le (kl nl tl : List UInt8) : (over kl nl tl).length ≤ tl.length := by rw [over, xorL_len]; omega
/-! Texts laid twice, and shorter ones. -/
theorem strL_nth (e : (Nat → UInt8) → Nat → UInt8) (c : Nat → UInt8) : ∀ m q, q < 16 * m → (strL e c m)[q]? = some (e (addC c (q / 16)) (q % 16))
  | 0, q, h => by omega
  | m + 1, q, h => by
    rw [strL]
    by_cases hq : q < 16 * m
    · rw [List.getElem?_append_left (by rw [strL_len]; exact hq)]
      exact strL_nth e c m q hq
    · rw [List.getElem?_append_right (by rw [strL_len]; omega), strL_len]
      have h1 : q / 16 = m := by omega
      have h2 : q - 16 * m = q % 16 := by omega
      have h3 : q % 16 < 16 := Nat.mod_lt _ (by decide)
      simp [h1, h2, h3]
theorem strF_ok {kl nl : List UInt8} (hk : kl.length = 32) (hn : nl.length = 16) {n : Nat} (h : n ≤ 65536) : strF kl nl n = 0 := by
  rw [strF, (beg_ok ⟨hk, hn⟩).1, if_pos rfl, if_pos h]
theorem ovS_nth {kl nl : List UInt8} (hk : kl.length = 32) (hn : nl.length = 16) {n : Nat} (h : n ≤ 65536) {q : Nat} (hq : q < n) : (ovS kl nl n)[q]? = some (encF (begK kl nl) (addC (begC nl) (q / 16)) (q % 16)) := by
  rw [ovS, strN, strA, if_pos (strF_ok hk hn h), if_pos (strF_ok hk hn h), List.getElem?_take, if_pos hq]
  exact strL_nth _ _ _ _ (by rw [strM]; omega)
theorem ovS_length {kl nl : List UInt8} (hk : kl.length = 32) (hn : nl.length = 16) {n : Nat} (h : n ≤ 65536) : (ovS kl nl n).length = n := by rw [ovS_len, strN, if_pos (strF_ok hk hn h)]
theorem over_len {kl nl tl : List UInt8} (hk : kl.length = 32) (hn : nl.length = 16) (h : tl.length ≤ 65536) : (over kl nl tl).length = tl.length := by
  rw [over, xorL_len, ovS_length hk hn h]; omega
theorem over_nth {kl nl tl : List UInt8} (hk : kl.length = 32) (hn : nl.length = 16) (h : tl.length ≤ 65536) {q : Nat} (hq : q < tl.length) : (over kl nl tl)[q]? = some (tl[q] ^^^ encF (begK kl nl) (addC (begC nl) (q / 16)) (q % 16)) := by
  rw [over, xorL, List.getElem?_zipWith, ovS_nth hk hn h hq, List.getElem?_eq_getElem hq]
theorem over_back {kl nl tl : List UInt8} (hk : kl.length = 32) (hn : nl.length = 16) (h : tl.length ≤ 65536) : over kl nl (over kl nl tl) = tl := by
  have hl := over_len hk hn h
  apply List.ext_getElem?
  intro q
  by_cases hq : q < tl.length
  · have h1 := over_nth hk hn h hq
    have hq' : q < (over kl nl tl).length := by omega
    rw [List.getElem?_eq_getElem hq', Option.some.injEq] at h1
    rw [over_nth hk hn (by omega) hq', h1, List.getElem?_eq_getElem hq, UInt8.xor_assoc]
    simp
  · rw [List.getElem?_eq_none (by rw [over_len hk hn (by omega)]; omega), List.getElem?_eq_none (by omega)]
theorem over_take {kl nl tl : List UInt8} (hk : kl.length = 32) (hn : nl.length = 16) (h : tl.length ≤ 65536) {n : Nat} (hle : n ≤ tl.length) : over kl nl (tl.take n) = (over kl nl tl).take n := by
  have hl : (tl.take n).length = n := by rw [List.length_take]; omega
  apply List.ext_getElem?
  intro q
  by_cases hq : q < n
  · rw [over_nth hk hn (by omega) (by omega), List.getElem?_take, if_pos hq, over_nth hk hn h (by omega)]
    simp
  · rw [List.getElem?_eq_none (by rw [over_len hk hn (by omega)]; omega), List.getElem?_eq_none (by rw [List.length_take, over_len hk hn h]; omega)]
end Go.Proofs.YtcdidapkpfnphaaDoor
