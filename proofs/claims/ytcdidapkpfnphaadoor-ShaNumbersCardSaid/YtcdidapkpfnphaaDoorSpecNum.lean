/- Primes, wide numbers and roots: what the document's own search comes to, in plain Lean. -/
import Derived.Test.YtcdidapkpfnphaaDoorSpecShb
namespace Go.Proofs.YtcdidapkpfnphaaDoor
open Go.RowKit
abbrev uq (n : Nat) : UInt64 := UInt64.ofNat n
theorem uq_toNat {n : Nat} (h : n < 18446744073709551616) : (uq n).toNat = n := by rw [UInt64.toNat_ofNat']; exact Nat.mod_eq_of_lt h
theorem uq_of (x : UInt64) : uq x.toNat = x := by apply UInt64.toNat_inj.1; rw [uq_toNat x.toNat_lt]
theorem uq_add (m n : Nat) : uq m + uq n = uq (m + n) := (UInt64.ofNat_add m n).symm
theorem uq_mul (m n : Nat) : uq m * uq n = uq (m * n) := (UInt64.ofNat_mul m n).symm
theorem uq_div {m n : Nat} (hm : m < 18446744073709551616) (hn : n < 18446744073709551616) : uq m / uq n = uq (m / n) := by
  apply UInt64.toNat_inj.1
  rw [UInt64.toNat_div, uq_toNat hm, uq_toNat hn, uq_toNat (Nat.lt_of_le_of_lt (Nat.div_le_self _ _) hm)]
theorem uq_mod {m n : Nat} (hm : m < 18446744073709551616) (hn : n < 18446744073709551616) : uq m % uq n = uq (m % n) := by
  apply UInt64.toNat_inj.1
  rw [UInt64.toNat_mod, uq_toNat hm, uq_toNat hn, uq_toNat (Nat.lt_of_le_of_lt (Nat.mod_le _ _) hm)]
theorem uq_shr {m : Nat} (hm : m < 18446744073709551616) : uq m >>> UInt64.ofNat 32 = uq (m / 4294967296) := by
  apply UInt64.toNat_inj.1
  rw [UInt64.toNat_shiftRight, uq_toNat hm, uq_toNat (Nat.lt_of_le_of_lt (Nat.div_le_self _ _) hm), Nat.shiftRight_eq_div_pow]
  rfl
theorem uq_shl {m : Nat} (hm : m < 4294967296) : uq m <<< UInt64.ofNat 16 = uq (m * 65536) := by
  apply UInt64.toNat_inj.1
  have h1 : (uq (m * 65536)).toNat = m * 65536 := uq_toNat (by omega)
  rw [h1, UInt64.toNat_shiftLeft, uq_toNat (by omega), Nat.shiftLeft_eq]
  show m * 65536 % 18446744073709551616 = _
  exact Nat.mod_eq_of_lt (by omega)
theorem uq_lt {m n : Nat} (hm : m < 18446744073709551616) (hn : n < 18446744073709551616) : ((uq m).toNat < (uq n).toNat) = (m < n) := by rw [uq_toNat hm, uq_toNat hn]
/-! Wide numbers: five digits of 32 bits. -/
def Bw : Nat := 4294967296
def dig (A i : Nat) : Nat := A / 4294967296 ^ i % 4294967296
def digF (A i : Nat) : UInt64 := uq (dig A i)
theorem dig_lt (A i : Nat) : dig A i < 4294967296 := Nat.mod_lt _ (by decide)
/-- What is carried into digit i, of a product with n. -/
def carN (A n i : Nat) : Nat := (A % 4294967296 ^ i) * n / 4294967296 ^ i
def xN (A n i : Nat) : Nat := (A % 4294967296 ^ (i + 1)) * n / 4294967296 ^ i
theorem mod_split (A i : Nat) : A % 4294967296 ^ (i + 1) = 4294967296 ^ i * dig A i + A % 4294967296 ^ i := by
  rw [Nat.pow_succ, Nat.mod_mul, dig, Nat.add_comm]
theorem x_eq (A n i : Nat) : dig A i * n + carN A n i = xN A n i := by
  rw [xN, mod_split, Nat.add_mul, Nat.mul_assoc, Nat.mul_add_div (Nat.pow_pos (by decide)), carN]
theorem x_dig (A n i : Nat) : xN A n i % 4294967296 = dig (A * n) i := by
  have hp : 0 < 4294967296 ^ i := Nat.pow_pos (by decide)
  have e : A = A % 4294967296 ^ (i + 1) + 4294967296 ^ (i + 1) * (A / 4294967296 ^ (i + 1)) := (Nat.mod_add_div _ _).symm
  have h1 : A * n / 4294967296 ^ i = xN A n i + 4294967296 * (A / 4294967296 ^ (i + 1) * n) := by
    have e2 : A * n = 4294967296 ^ i * (4294967296 * (A / 4294967296 ^ (i + 1) * n)) + (A % 4294967296 ^ (i + 1)) * n := by
      conv => lhs; rw [e, Nat.add_mul, Nat.add_comm]
      congr 1
      rw [Nat.pow_succ, Nat.mul_assoc, Nat.mul_assoc]
    rw [e2, Nat.mul_add_div hp, xN, Nat.add_comm]
  rw [dig, h1, Nat.add_mul_mod_self_left]
theorem x_car (A n i : Nat) : xN A n i / 4294967296 = carN A n (i + 1) := by
  rw [xN, carN, Nat.div_div_eq_div_mul, ← Nat.pow_succ]
theorem car_lt {A n i : Nat} (h : 0 < n) : carN A n i < n := by
  rw [carN, Nat.div_lt_iff_lt_mul (Nat.pow_pos (by decide)), Nat.mul_comm]
  exact Nat.mul_lt_mul_of_pos_left (Nat.mod_lt _ (Nat.pow_pos (by decide))) h
theorem car_le (A n i : Nat) : carN A n i ≤ n := by
  rcases Nat.eq_zero_or_pos n with h | h
  · subst h; simp [carN]
  · exact Nat.le_of_lt (car_lt h)
theorem x_lt {A n i : Nat} (h : n < 4294967296) : xN A n i < 18446744073709551616 := by
  rw [← x_eq]
  have h1 := dig_lt A i
  have h2 := car_le A n i
  have h3 : dig A i * n ≤ 4294967295 * 4294967295 := Nat.mul_le_mul (by omega) (by omega)
  omega
theorem car_zero (A n : Nat) : carN A n 0 = 0 := by simp [carN, Nat.mod_one]
/-- A digit times a number, and what was carried. -/
theorem tm_x {A n i : Nat} : digF A i * uq n + uq (carN A n i) = uq (xN A n i) := by rw [digF, uq_mul, uq_add, x_eq]
theorem tm_lo {A n i : Nat} (h : n < 4294967296) : uq (xN A n i) % 4294967296 = digF (A * n) i := by
  have := uq_mod (m := xN A n i) (n := 4294967296) (x_lt h) (by decide)
  rw [x_dig] at this
  exact this
theorem tm_hi {A n i : Nat} (h : n < 4294967296) : uq (xN A n i) >>> UInt64.ofNat 32 = uq (carN A n (i + 1)) := by rw [uq_shr (x_lt h), x_car]
/-! The sum of a high and a low product. -/
def shN (H L i : Nat) : Nat := ((H % 4294967296 ^ i) * 65536 + L % 4294967296 ^ i) / 4294967296 ^ i
def yN (H L i : Nat) : Nat := ((H % 4294967296 ^ (i + 1)) * 65536 + L % 4294967296 ^ (i + 1)) / 4294967296 ^ i
theorem sh_zero (H L : Nat) : shN H L 0 = 0 := by simp [shN, Nat.mod_one]
theorem y_eq (H L i : Nat) : dig H i * 65536 + shN H L i + dig L i = yN H L i := by
  rw [yN, mod_split H, mod_split L, shN]
  have e : (4294967296 ^ i * dig H i + H % 4294967296 ^ i) * 65536 + (4294967296 ^ i * dig L i + L % 4294967296 ^ i) = 4294967296 ^ i * (dig H i * 65536 + dig L i) + ((H % 4294967296 ^ i) * 65536 + L % 4294967296 ^ i) := by
    generalize 4294967296 ^ i = b
    generalize dig H i = p
    generalize dig L i = q
    generalize H % b = r
    generalize L % b = s
    rw [Nat.add_mul, Nat.mul_add, Nat.mul_assoc]
    generalize b * (p * 65536) = x
    generalize b * q = y
    generalize r * 65536 = z
    omega
  rw [e, Nat.mul_add_div (Nat.pow_pos (by decide))]
  generalize (H % 4294967296 ^ i * 65536 + L % 4294967296 ^ i) / 4294967296 ^ i = z
  generalize dig H i * 65536 = x
  generalize dig L i = y
  omega
theorem y_dig (H L i : Nat) : yN H L i % 4294967296 = dig (H * 65536 + L) i := by
  have hp : 0 < 4294967296 ^ i := Nat.pow_pos (by decide)
  have h1 : (H * 65536 + L) / 4294967296 ^ i = yN H L i + 4294967296 * (H / 4294967296 ^ (i + 1) * 65536 + L / 4294967296 ^ (i + 1)) := by
    have eH := (Nat.mod_add_div H (4294967296 ^ (i + 1))).symm
    have eL := (Nat.mod_add_div L (4294967296 ^ (i + 1))).symm
    have e2 : H * 65536 + L = 4294967296 ^ i * (4294967296 * (H / 4294967296 ^ (i + 1) * 65536 + L / 4294967296 ^ (i + 1))) + ((H % 4294967296 ^ (i + 1)) * 65536 + L % 4294967296 ^ (i + 1)) := by
      conv => lhs; rw [eH, eL]
      rw [← Nat.mul_assoc, ← Nat.pow_succ]
      generalize 4294967296 ^ (i + 1) = b
      generalize H / b = p
      generalize L / b = q
      generalize H % b = r
      generalize L % b = s
      rw [Nat.add_mul, Nat.mul_add, Nat.mul_assoc]
      generalize b * (p * 65536) = x
      generalize b * q = y
      generalize r * 65536 = z
      omega
    rw [e2, Nat.mul_add_div hp, yN, Nat.add_comm]
  rw [dig, h1, Nat.add_mul_mod_self_left]
theorem y_sh (H L i : Nat) : yN H L i / 4294967296 = shN H L (i + 1) := by rw [yN, shN, Nat.div_div_eq_div_mul, ← Nat.pow_succ]
theorem sh_le (H L i : Nat) : shN H L i ≤ 65536 := by
  have hp : 0 < 4294967296 ^ i := Nat.pow_pos (by decide)
  rw [shN, ← Nat.lt_add_one_iff, Nat.div_lt_iff_lt_mul hp]
  have h1 := Nat.mod_lt H hp
  have h2 := Nat.mod_lt L hp
  omega
theorem yN_lt (H L i : Nat) : yN H L i < 18446744073709551616 := by
  rw [← y_eq]
  have h1 := dig_lt H i
  have h2 := dig_lt L i
  have h3 := sh_le H L i
  omega
theorem tm_y {H L i : Nat} : digF H i <<< UInt64.ofNat 16 + uq (shN H L i) + digF L i = uq (yN H L i) := by rw [digF, digF, uq_shl (dig_lt H i), uq_add, uq_add, y_eq]
theorem tm_ylo {H L i : Nat} : uq (yN H L i) % 4294967296 = digF (H * 65536 + L) i := by
  have := uq_mod (m := yN H L i) (n := 4294967296) (yN_lt H L i) (by decide)
  rw [y_dig] at this
  exact this
theorem tm_yhi {H L i : Nat} : uq (yN H L i) >>> UInt64.ofNat 32 = uq (shN H L (i + 1)) := by rw [uq_shr (yN_lt H L i), y_sh]
theorem tm_all {A n : Nat} : A * (n / 65536) * 65536 + A * (n % 65536) = A * n := by
  rw [Nat.mul_assoc, ← Nat.mul_add]
  congr 1
  omega
/-! Which of two is above the other. -/
theorem div_step (A i : Nat) : A / 4294967296 ^ i = A / 4294967296 ^ (i + 1) * 4294967296 + dig A i := by
  rw [dig, Nat.pow_succ, ← Nat.div_div_eq_div_mul]
  omega
theorem digF_inj {A C i : Nat} : (digF A i = digF C i) ↔ dig A i = dig C i := by
  constructor
  · intro h
    have h1 := congrArg UInt64.toNat h
    have hA := dig_lt A i
    have hC := dig_lt C i
    rwa [digF, digF, uq_toNat (by omega), uq_toNat (by omega)] at h1
  · intro h; rw [digF, digF, h]
theorem ab_next {A C i : Nat} (h : A / 4294967296 ^ (i + 1) = C / 4294967296 ^ (i + 1)) (e : digF A i = digF C i) : A / 4294967296 ^ i = C / 4294967296 ^ i := by
  rw [div_step A, div_step C, h, digF_inj.1 e]
theorem ab_here {A C i : Nat} (h : A / 4294967296 ^ (i + 1) = C / 4294967296 ^ (i + 1)) (e : ¬ digF A i = digF C i) : ((digF C i).toNat < (digF A i).toNat) ↔ C < A := by
  have hA := dig_lt A i
  have hC := dig_lt C i
  have hne : dig A i ≠ dig C i := fun h' => e (digF_inj.2 h')
  rw [digF, digF, uq_toNat (by omega), uq_toNat (by omega)]
  have h1 := div_step A i
  have h2 := div_step C i
  rw [h] at h1
  constructor
  · intro hlt
    by_cases hc : C < A
    · exact hc
    · have := Nat.div_le_div_right (c := 4294967296 ^ i) (Nat.le_of_not_lt hc)
      omega
  · intro hlt
    have := Nat.div_le_div_right (c := 4294967296 ^ i) (Nat.le_of_lt hlt)
    omega
/-! Roots. -/
def rtS (lim p : Nat) : Nat → Nat
  | 0 => 0
  | k + 1 => if (rtS lim p k + 2 ^ (35 - k)) ^ p ≤ lim then rtS lim p k + 2 ^ (35 - k) else rtS lim p k
theorem rtS_le (lim p : Nat) : ∀ k, k ≤ 36 → rtS lim p k + 2 ^ (36 - k) ≤ 2 ^ 36
  | 0, _ => by simp [rtS]
  | k + 1, h => by
    have ih := rtS_le lim p k (by omega)
    have e : 2 ^ (36 - k) = 2 * 2 ^ (35 - k) := by rw [show 36 - k = 35 - k + 1 from by omega, Nat.pow_succ]; omega
    rw [show 36 - (k + 1) = 35 - k from by omega, rtS]
    split <;> omega
theorem rt_add {lim p k : Nat} (h : k < 36) : rtS lim p k + 2 ^ (35 - k) < 68719476736 := by
  have h1 := rtS_le lim p k (by omega)
  have e : 2 ^ (36 - k) = 2 * 2 ^ (35 - k) := by rw [show 36 - k = 35 - k + 1 from by omega, Nat.pow_succ]; omega
  have : 0 < 2 ^ (35 - k) := Nat.pow_pos (by decide)
  omega
theorem rt_lt {lim p k : Nat} (h : k ≤ 36) : rtS lim p k < 68719476736 := by
  have h1 := rtS_le lim p k h
  have : 0 < 2 ^ (36 - k) := Nat.pow_pos (by decide)
  omega
def bitN (k : Nat) : Nat := 34359738368 / 2 ^ k
theorem bit_eq {k : Nat} (h : k < 36) : bitN k = 2 ^ (35 - k) := by
  have e : (34359738368 : Nat) = 2 ^ (35 - k) * 2 ^ k := by rw [← Nat.pow_add, show 35 - k + k = 35 from by omega]
  rw [bitN, e, Nat.mul_div_cancel _ (Nat.pow_pos (by decide))]
theorem bit_lt (k : Nat) : bitN k ≤ 34359738368 := Nat.div_le_self _ _
theorem bit_next (k : Nat) : uq (bitN k) / 2 = uq (bitN (k + 1)) := by
  have h := bit_lt k
  have := uq_div (m := bitN k) (n := 2) (by omega) (by decide)
  rw [bitN, Nat.div_div_eq_div_mul, ← Nat.pow_succ] at this
  exact this
theorem bit_go {k : Nat} (h : k ≤ 36) (c : (0 : UInt64).toNat < (uq (bitN k)).toNat) : k < 36 := by
  by_cases h36 : k = 36
  · subst h36; exact absurd c (by decide)
  · omega
theorem bit_end {k : Nat} (h : k ≤ 36) (c : ¬ (0 : UInt64).toNat < (uq (bitN k)).toNat) : k = 36 := by
  by_cases h36 : k < 36
  · exfalso
    apply c
    have h1 := bit_lt k
    rw [uq_toNat (by omega), bit_eq h36]
    exact Nat.pow_pos (by decide)
  · omega
def rootN (lim p : Nat) : UInt32 := (uq (rtS lim p 36 % 4294967296)).toUInt32
theorem pow_big {x i : Nat} (h : x < 68719476736) (hi : i ≤ 3) : x ^ i < 4294967296 ^ 5 := by
  have h1 : x ^ i ≤ 68719476736 ^ i := Nat.pow_le_pow_left (Nat.le_of_lt h) i
  have h2 : 68719476736 ^ i ≤ 68719476736 ^ 3 := Nat.pow_le_pow_right (by decide) hi
  have h3 : 68719476736 ^ 3 < 4294967296 ^ 5 := by decide
  omega
theorem dig_small {n : Nat} (h : n < 4294967296) (i j : Nat) : dig (n * 4294967296 ^ i) j = if j = i then n else 0 := by
  rw [dig]
  rcases Nat.lt_trichotomy j i with hlt | heq | hgt
  · rw [if_neg (by omega), show i = j + (i - j - 1) + 1 from by omega, Nat.pow_succ, Nat.pow_add]
    have e : n * (4294967296 ^ j * 4294967296 ^ (i - j - 1) * 4294967296) = 4294967296 ^ j * (n * 4294967296 ^ (i - j - 1) * 4294967296) := by
      simp only [Nat.mul_assoc, Nat.mul_left_comm]
    rw [e, Nat.mul_div_cancel_left _ (Nat.pow_pos (by decide)), Nat.mul_mod_left]
  · subst heq
    rw [if_pos rfl, Nat.mul_div_cancel _ (Nat.pow_pos (by decide)), Nat.mod_eq_of_lt h]
  · rw [if_neg (by omega), Nat.div_eq_of_lt, Nat.zero_mod]
    rw [show j = i + (j - i - 1) + 1 from by omega, Nat.pow_succ, Nat.pow_add, Nat.mul_assoc, Nat.mul_comm]
    apply Nat.mul_lt_mul_of_pos_left _ (Nat.pow_pos (by decide))
    have : 0 < 4294967296 ^ (j - i - 1) := Nat.pow_pos (by decide)
    exact Nat.lt_of_lt_of_le h (Nat.le_mul_of_pos_left _ this)
/-! Primes. -/
def isPd (n d : Nat) : Bool := (List.range d).all fun e => decide (e < 2) || decide (n % e ≠ 0)
def isP (n : Nat) : Bool := decide (2 ≤ n) && isPd n n
def cntP (k : Nat) : Nat := ((List.range k).filter isP).length
def pNs : List Nat := (List.range 400).filter isP
def primeN (t : Nat) : Nat := pNs.getD t 0
theorem isPd_next (n d : Nat) : isPd n (d + 1) = (isPd n d && (decide (d < 2) || decide (n % d ≠ 0))) := by simp [isPd, List.range_succ]
theorem isPd_no {n d : Nat} (h2 : 2 ≤ d) (h : n % d = 0) : isPd n (d + 1) = false := by rw [isPd_next]; simp [h]; omega
theorem isPd_yes {n d : Nat} (h : ¬ n % d = 0) : isPd n (d + 1) = isPd n d := by rw [isPd_next]; simp [h]
theorem isPd_two (n : Nat) : isPd n 2 = true := rfl
theorem cnt_next (k : Nat) : cntP (k + 1) = cntP k + if isP k = true then 1 else 0 := by
  rw [cntP, List.range_succ, List.filter_append, List.length_append, cntP]
  congr 1
  cases h : isP k <;> simp [h]
theorem isP_of {k : Nat} (h : 2 ≤ k) : isP k = isPd k k := by simp [isP, h]
theorem prime_at {k : Nat} (hk : k < 400) (h : isP k = true) : primeN (cntP k) = k := by
  have e : pNs = ((List.range k).filter isP) ++ (k :: ((List.range' (k + 1) (400 - (k + 1))).filter isP)) := by
    have e1 : List.range 400 = List.range k ++ (k :: List.range' (k + 1) (400 - (k + 1))) := by
      have h1 := List.range'_append_1 (s := 0) (m := k) (n := 400 - k)
      rw [show k + (400 - k) = 400 from by omega, Nat.zero_add] at h1
      rw [← List.range'_succ, List.range_eq_range', List.range_eq_range', show 400 - (k + 1) + 1 = 400 - k from by omega]
      exact h1.symm
    rw [pNs, e1, List.filter_append, List.filter_cons_of_pos h]
  rw [primeN, e, List.getD_eq_getElem?_getD, cntP, List.getElem?_append_right (Nat.le_refl _), Nat.sub_self]
  rfl
set_option maxRecDepth 100000 in
theorem pNs_eq : pNs = [2, 3, 5, 7, 11, 13, 17, 19, 23, 29, 31, 37, 41, 43, 47, 53, 59, 61, 67, 71, 73, 79, 83, 89, 97, 101, 103, 107, 109, 113, 127, 131, 137, 139, 149, 151, 157, 163, 167, 173, 179, 181, 191, 193, 197, 199, 211, 223, 227, 229, 233, 239, 241, 251, 257, 263, 269, 271, 277, 281, 283, 293, 307, 311, 313, 317, 331, 337, 347, 349, 353, 359, 367, 373, 379, 383, 389, 397] := by decide +kernel
theorem cnt_400 : cntP 400 = 78 := by rw [cntP, show (List.range 400).filter isP = pNs from rfl, pNs_eq]; rfl
theorem prime_lt (t : Nat) : primeN t < 400 := by
  rw [primeN, List.getD_eq_getElem?_getD]
  cases h : pNs[t]? with
  | none => simp
  | some x =>
    have := List.mem_of_getElem? h
    rw [pNs, List.mem_filter, List.mem_range] at this
    exact this.1
def kG (t : Nat) : UInt32 := if t < 64 then kT t else 0
set_option maxRecDepth 100000 in
theorem root_k : ∀ t, t < 64 → rootN (primeN t * 4294967296 ^ 3) 3 = kT t := by
  unfold primeN
  rw [pNs_eq]
  decide +kernel
set_option maxRecDepth 100000 in
theorem root_f : ∀ t, t < 8 → rootN (primeN t * 4294967296 ^ 2) 2 = firstF t := by
  unfold primeN
  rw [pNs_eq]
  decide +kernel
theorem uq_zero {m : Nat} (h : m < 18446744073709551616) : (uq m = 0) ↔ m = 0 := by
  constructor
  · intro e
    have := congrArg UInt64.toNat e
    rwa [uq_toNat h] at this
  · intro e; subst e; rfl
theorem uq_ne {m : Nat} (h : m < 18446744073709551616) (h0 : m ≠ 0) : uq m ≠ 0 := fun e => h0 ((uq_zero h).1 e)
theorem rt_bit {lim p k : Nat} (h : k < 36) : uq (rtS lim p k) + uq (bitN k) = uq (rtS lim p k + 2 ^ (35 - k)) := by rw [uq_add, bit_eq h]
theorem dig_p {n : Nat} (h : n < 4294967296) (i j : Nat) : digF (n * 4294967296 ^ i) j = if j = i then uq n else 0 := by
  rw [digF, dig_small h]
  split <;> rfl
theorem dig_1 (j : Nat) : digF 1 j = if j = 0 then uq 1 else 0 := dig_p (n := 1) (by decide) 0 j
theorem lim_lt {n i : Nat} (h : n < 400) (hi : i ≤ 3) : n * 4294967296 ^ i < 4294967296 ^ 5 := by
  have h1 : 4294967296 ^ i ≤ 4294967296 ^ 3 := Nat.pow_le_pow_right (by decide) hi
  have h2 : n * 4294967296 ^ i ≤ 400 * 4294967296 ^ 3 := Nat.mul_le_mul (by omega) h1
  have h3 : 400 * 4294967296 ^ 3 < 4294967296 ^ 5 := by decide
  omega
theorem div_five {A : Nat} (h : A < 4294967296 ^ 5) : A / 4294967296 ^ (5 - 0) = 0 := Nat.div_eq_of_lt h
end Go.Proofs.YtcdidapkpfnphaaDoor
