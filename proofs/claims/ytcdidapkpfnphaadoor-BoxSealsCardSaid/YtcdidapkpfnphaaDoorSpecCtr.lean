/- What the counter and the streams come to, in plain Lean, with the laws that the walks need. -/
import Derived.Test.YtcdidapkpfnphaaDoorSpecAes
import Derived.Test.YtcdidapkpfnphaaDoorLibF
namespace Go.Proofs.YtcdidapkpfnphaaDoor
def carry (c : Nat → UInt8) (n : Nat) : Nat → Nat
  | 0 => n
  | k + 1 => (carry c n k + (c (15 - k)).toNat) / 256
def addC (c : Nat → UInt8) (n i : Nat) : UInt8 := UInt8.ofNat ((carry c n (15 - i) + (c i).toNat) % 256)
theorem carry_le {c : Nat → UInt8} {n : Nat} (hn : n ≤ 70000) : ∀ k, carry c n k ≤ 70000
  | 0 => hn
  | k + 1 => by
    have := carry_le (c := c) hn k
    have := (c (15 - k)).toNat_lt
    simp only [carry]
    omega
theorem toNat_ofNat_mod (x : Nat) : (UInt8.ofNat (x % 256)).toNat = x % 256 := by simp
theorem carry_add (c : Nat → UInt8) (m : Nat) : ∀ k, carry c m k + carry (addC c m) 1 k = carry c (m + 1) k ∨ 15 < k
  | 0 => .inl rfl
  | k + 1 => by
    by_cases hk : 15 < k + 1
    · exact .inr hk
    rcases carry_add c m k with ih | h
    · left
      simp only [carry]
      have e : (addC c m (15 - k)).toNat = (carry c m k + (c (15 - k)).toNat) % 256 := by
        rw [addC, toNat_ofNat_mod, show 15 - (15 - k) = k from by omega]
      rw [e]
      omega
    · omega
theorem addC_succ (c : Nat → UInt8) (m i : Nat) : addC (addC c m) 1 i = addC c (m + 1) i := by
  have h := carry_add c m (15 - i)
  rcases h with h | h
  · have e : (addC c m i).toNat = (carry c m (15 - i) + (c i).toNat) % 256 := by rw [addC, toNat_ofNat_mod]
    rw [addC, e, addC]
    congr 1
    omega
  · omega
theorem addC_next (c : Nat → UInt8) (m : Nat) : addC (addC c m) 1 = addC c (m + 1) := funext (addC_succ c m)
theorem carry_zero (c : Nat → UInt8) : ∀ k, carry c 0 k = 0
  | 0 => rfl
  | k + 1 => by
    have := (c (15 - k)).toNat_lt
    simp only [carry, carry_zero c k]
    omega
theorem addC_zero (c : Nat → UInt8) : addC c 0 = c := by
  funext i
  rw [addC, carry_zero]
  apply UInt8.toNat_inj.1
  rw [toNat_ofNat_mod]
  have := (c i).toNat_lt
  omega
/-! One more: the state after k places. -/
def incS (c : Nat → UInt8) (k : Nat) (j : Nat) : UInt8 := if 16 ≤ j + k then addC c 1 j else c j
theorem incS_at {c : Nat → UInt8} {k : Nat} (hk : k ≤ 15) : incS c k (15 - k) = c (15 - k) := if_neg (by omega)
theorem add_one_toNat (x : UInt8) : (x + 1).toNat = (x.toNat + 1) % 256 := by simp [UInt8.toNat_add]
theorem add_one_eq (x : UInt8) : x + 1 = UInt8.ofNat ((1 + x.toNat) % 256) := UInt8.toNat_inj.1 (by rw [add_one_toNat, toNat_ofNat_mod, Nat.add_comm])
theorem carry_stop {c : Nat → UInt8} {k : Nat} (h : carry c 1 k = 0) : ∀ j, carry c 1 (k + j) = 0
  | 0 => h
  | j + 1 => by
    have := (c (15 - (k + j))).toNat_lt
    show (carry c 1 (k + j) + (c (15 - (k + j))).toNat) / 256 = 0
    rw [carry_stop h j]
    omega
theorem inc_brk {c : Nat → UInt8} {k : Nat} (hk : k ≤ 15) (h1 : carry c 1 k = 1) (h : ¬ upd (incS c k) (15 - k) (incS c k (15 - k) + 1) (15 - k) = 0) (j : Nat) (hj : j < 16) : upd (incS c k) (15 - k) (incS c k (15 - k) + 1) j = addC c 1 j := by
  simp only [upd, if_true, incS_at hk] at h ⊢
  have hne : (c (15 - k)).toNat ≠ 255 := fun e => h (UInt8.toNat_inj.1 (by rw [add_one_toNat, e]; rfl))
  have hlt := (c (15 - k)).toNat_lt
  by_cases hjk : j = 15 - k
  · subst hjk
    rw [if_pos rfl, addC, show 15 - (15 - k) = k from by omega, h1, add_one_eq]
  · rw [if_neg hjk, incS]
    by_cases h2 : 16 ≤ j + k
    · rw [if_pos h2]
    · have h0 : carry c 1 (k + 1) = 0 := by simp only [carry, h1]; omega
      have h3 := carry_stop h0 (15 - j - (k + 1))
      rw [show k + 1 + (15 - j - (k + 1)) = 15 - j from by omega] at h3
      rw [if_neg h2, addC, h3]
      apply UInt8.toNat_inj.1
      rw [toNat_ofNat_mod]
      have := (c j).toNat_lt
      omega
theorem inc_go {c : Nat → UInt8} {k : Nat} (hk : k ≤ 15) (h1 : carry c 1 k = 1) (h : ¬ ¬ upd (incS c k) (15 - k) (incS c k (15 - k) + 1) (15 - k) = 0) : carry c 1 (k + 1) = 1 ∧ ∀ j, upd (incS c k) (15 - k) (incS c k (15 - k) + 1) j = incS c (k + 1) j := by
  have h := Decidable.not_not.1 h
  simp only [upd, if_true, incS_at hk] at h ⊢
  have e : (c (15 - k)).toNat = 255 := by
    have h2 := congrArg UInt8.toNat h
    rw [add_one_toNat] at h2
    have := (c (15 - k)).toNat_lt
    simp at h2
    omega
  refine ⟨by simp only [carry, h1, e], fun j => ?_⟩
  by_cases hjk : j = 15 - k
  · subst hjk
    rw [if_pos rfl, incS, if_pos (by omega), addC, show 15 - (15 - k) = k from by omega, h1, add_one_eq]
  · rw [if_neg hjk, incS, incS]
    by_cases h2 : 16 ≤ j + k
    · rw [if_pos h2, if_pos (by omega)]
    · rw [if_neg h2, if_neg (by omega)]
/-- The same, with the zero written out. -/
theorem inc_255 {c : Nat → UInt8} {k : Nat} (hk : k ≤ 15) (h1 : carry c 1 k = 1) (h : incS c k (15 - k) = 255) : carry c 1 (k + 1) = 1 ∧ ∀ j, upd (incS c k) (15 - k) 0 j = incS c (k + 1) j := by
  have h2 := inc_go hk h1 (by simp only [upd, if_true, h]; decide)
  refine ⟨h2.1, fun j => ?_⟩
  rw [← h2.2 j, h]
  rfl
theorem inc_end {c : Nat → UInt8} {k : Nat} (hk : k ≤ 15) (h1 : carry c 1 k = 1) (h : k = 15 ∨ incS c k (15 - k) ≠ 255) (j : Nat) (hj : j < 16) : upd (incS c k) (15 - k) (incS c k (15 - k) + 1) j = addC c 1 j := by
  by_cases h0 : upd (incS c k) (15 - k) (incS c k (15 - k) + 1) (15 - k) = 0
  · rcases h with rfl | h
    · have h2 := (inc_go hk h1 (not_not_intro h0)).2 j
      rw [h2, incS, if_pos (by omega)]
    · exfalso
      apply h
      simp only [upd, if_true] at h0
      have e := congrArg UInt8.toNat h0
      rw [add_one_toNat] at e
      apply UInt8.toNat_inj.1
      have := (incS c k (15 - k)).toNat_lt
      simp at e ⊢
      omega
  · exact inc_brk hk h1 h0 j hj
/-! The document's counter: the state after k places. -/
def cntS (c : Nat → UInt8) (n k : Nat) (j : Nat) : UInt8 := if 16 ≤ j + k then addC c n j else c j
theorem cntS_at {c : Nat → UInt8} {n k : Nat} (hk : k ≤ 15) : cntS c n k (15 - k) = c (15 - k) := if_neg (by omega)
theorem cnt_carry {c : Nat → UInt8} {n k : Nat} (hk : k ≤ 15) : (carry c n k + (cntS c n k (15 - k)).toNat) / 256 = carry c n (k + 1) := by rw [cntS_at hk]; rfl
theorem cnt_step {c : Nat → UInt8} {n k : Nat} (hk : k ≤ 15) (j : Nat) : upd (cntS c n k) (15 - k) (UInt8.ofNat ((carry c n k + (cntS c n k (15 - k)).toNat) % 256)) j = cntS c n (k + 1) j := by
  rw [cntS_at hk]
  simp only [upd, cntS]
  by_cases hjk : j = 15 - k
  · subst hjk
    rw [if_pos rfl, if_pos (by omega), addC, show 15 - (15 - k) = k from by omega]
  · rw [if_neg hjk]
    by_cases h2 : 16 ≤ j + k
    · rw [if_pos h2, if_pos (by omega)]
    · rw [if_neg h2, if_neg (by omega)]
/-! Blocks and streams. -/
def begF (key nonce : List UInt8) : Nat := if nonce.length = 16 then schFault key else 4
def begK (key nonce : List UInt8) : Nat → UInt8 := if nonce.length = 16 then schF key else fun _ => 0
def begC (nonce : List UInt8) : Nat → UInt8 := if nonce.length = 16 then keyF nonce else fun _ => 0
def atF (key nonce : List UInt8) (n : Nat) : Nat := if begF key nonce = 0 then (if n < 65536 then 0 else 2) else begF key nonce
def atFn (key nonce : List UInt8) : Nat := if begF key nonce = 0 then 2 else begF key nonce
def atV (key nonce : List UInt8) (n : Nat) : Nat → UInt8 := if begF key nonce = 0 ∧ n < 65536 then encF (begK key nonce) (addC (begC nonce) n) else fun _ => 0
def okR (key nonce : List UInt8) : Prop := key.length = 32 ∧ nonce.length = 16
instance (key nonce : List UInt8) : Decidable (okR key nonce) := inferInstanceAs (Decidable (_ ∧ _))
def atFR (key nonce : List UInt8) (n : Nat) : Nat := if okR key nonce then (if n < 65536 then 0 else 2) else 4
def atFnR (key nonce : List UInt8) : Nat := if okR key nonce then 2 else 4
def atVR (key nonce : List UInt8) (n : Nat) : Nat → UInt8 := if okR key nonce ∧ n < 65536 then encR (schR key) (addC (keyF nonce) n) else fun _ => 0
/-- The bytes of the first m blocks. -/
def strL (enc : (Nat → UInt8) → Nat → UInt8) (c : Nat → UInt8) : Nat → List UInt8
  | 0 => []
  | m + 1 => strL enc c m ++ (List.range 16).map (enc (addC c m))
theorem strL_len (enc : (Nat → UInt8) → Nat → UInt8) (c : Nat → UInt8) : ∀ m, (strL enc c m).length = 16 * m
  | 0 => rfl
  | m + 1 => by rw [strL, List.length_append, strL_len enc c m]; simp; omega
def strM (size : Nat) : Nat := (size + 15) / 16
def xorL (a b : List UInt8) : List UInt8 := List.zipWith (· ^^^ ·) a b
theorem xorL_len (a b : List UInt8) : (xorL a b).length = min a.length b.length := by simp [xorL]
theorem xorL_nth {a b : List UInt8} {i : Nat} (ha : i < a.length) (hb : i < b.length) : (xorL a b).getD i 0 = a.getD i 0 ^^^ b.getD i 0 := by
  simp [xorL, List.getD_eq_getElem?_getD, List.getElem?_zipWith, ha, hb]
def strF (key nonce : List UInt8) (size : Nat) : Nat := if begF key nonce = 0 then (if size ≤ 65536 then 0 else 2) else begF key nonce
def strN (key nonce : List UInt8) (size : Nat) : Nat := if strF key nonce size = 0 then size else 0
def strA (key nonce : List UInt8) (size : Nat) : List UInt8 := if strF key nonce size = 0 then strL (encF (begK key nonce)) (begC nonce) (strM size) else []
def strFR (key nonce : List UInt8) (size : Nat) : Nat := if okR key nonce then (if size ≤ 65536 then 0 else 2) else 4
def strNR (key nonce : List UInt8) (size : Nat) : Nat := if strFR key nonce size = 0 then size else 0
def strAR (key nonce : List UInt8) (size : Nat) : List UInt8 := if strFR key nonce size = 0 then strL (encR (schR key)) (keyF nonce) (strM size) else []
theorem strN_le (key nonce : List UInt8) (size : Nat) : strN key nonce size ≤ (strA key nonce size).length := by
  unfold strN strA
  split
  · rw [strL_len, strM]; omega
  · exact Nat.zero_le _
theorem strNR_le (key nonce : List UInt8) (size : Nat) : strNR key nonce size ≤ (strAR key nonce size).length := by
  unfold strNR strAR
  split
  · rw [strL_len, strM]; omega
  · exact Nat.zero_le _
def ovS (key nonce : List UInt8) (size : Nat) : List UInt8 := (strA key nonce size).take (strN key nonce size)
def ovSR (key nonce : List UInt8) (size : Nat) : List UInt8 := (strAR key nonce size).take (strNR key nonce size)
theorem ovS_len (key nonce : List UInt8) (size : Nat) : (ovS key nonce size).length = strN key nonce size := by
  have := strN_le key nonce size
  rw [ovS, List.length_take]; omega
theorem ovSR_len (key nonce : List UInt8) (size : Nat) : (ovSR key nonce size).length = strNR key nonce size := by
  have := strNR_le key nonce size
  rw [ovSR, List.length_take]; omega
/-- A text over which a stream is laid. -/
def over (key nonce text : List UInt8) : List UInt8 := xorL text (ovS key nonce text.length)
def overR (key nonce text : List UInt8) : List UInt8 := xorL text (ovSR key nonce text.length)
theorem xor_fill {a b : List UInt8} {n k : Nat} (hn : n = min a.length b.length) (hk : n ≤ k) : ns vb n (fun i => if i < k then a.getD i 0 ^^^ b.getD i 0 else 0) = ls vb (xorL a b) := by
  apply List.ext_getElem?
  intro j
  by_cases hj : j < n
  · rw [ns_nth hj, ls_nthD (by rw [xorL_len]; omega), if_pos (by omega), xorL_nth (by omega) (by omega)]
  · rw [List.getElem?_eq_none (by rw [ns_len]; omega), List.getElem?_eq_none (by rw [ls_len, xorL_len]; omega)]
theorem xor_next {a b : List UInt8} {k : Nat} (ha : k < a.length) (hb : k < b.length) : (xorL a b).take k ++ [a.getD k 0 ^^^ b.getD k 0] = (xorL a b).take (k + 1) := by
  have hl : k < (xorL a b).length := by rw [xorL_len]; omega
  rw [List.take_add_one, ← xorL_nth ha hb]
  simp [List.getD_eq_getElem?_getD, hl]
/-- A remainder from 0 on. -/
def modI (i : Int) (n : Nat) : Nat := (if i.tmod (n : Int) < 0 then i.tmod (n : Int) + (n : Int) else i.tmod (n : Int)).toNat
theorem tmod_in (i : Int) {n : Nat} (h : 0 < n) : -(n : Int) < i.tmod (n : Int) ∧ i.tmod (n : Int) < (n : Int) :=
  ⟨by have := Int.lt_tmod_of_pos i (show (0 : Int) < (n : Int) by omega); omega, Int.tmod_lt_of_pos i (by omega)⟩
theorem modI_lt (i : Int) {n : Nat} (h : 0 < n) : modI i n < n := by
  have := tmod_in i h
  unfold modI
  split <;> omega
theorem modI_eq (i : Int) {n : Nat} (h : 0 < n) : ((modI i n : Nat) : Int) = if i.tmod (n : Int) < 0 then i.tmod (n : Int) + (n : Int) else i.tmod (n : Int) := by
  have := tmod_in i h
  unfold modI
  split <;> omega
end Go.Proofs.YtcdidapkpfnphaaDoor
