/- What is expanded and derived of keys, in plain Lean. -/
import Derived.Test.YtcdidapkpfnphaaDoorSpecMac
import Derived.Test.YtcdidapkpfnphaaDoorLibN
namespace Go.Proofs.YtcdidapkpfnphaaDoor
open Go.RowKit
/-- The tags, one of the other. -/
def tgL (kl il : List UInt8) : Nat → List UInt8
  | 0 => []
  | n + 1 => hmacL kl (tgL kl il n ++ il ++ [UInt8.ofNat (n + 1)])
def outN (kl il : List UInt8) : Nat → List UInt8
  | 0 => []
  | n + 1 => outN kl il n ++ tgL kl il (n + 1)
theorem tgL_le (kl il : List UInt8) (n : Nat) : (tgL kl il n).length ≤ 32 := by
  cases n with
  | zero => simp [tgL]
  | succ n => rw [tgL, hmacL_len]; omega
theorem tgL_len (kl il : List UInt8) (n : Nat) : (tgL kl il (n + 1)).length = 32 := hmacL_len _ _
theorem outN_len (kl il : List UInt8) : ∀ n, (outN kl il n).length = 32 * n
  | 0 => rfl
  | n + 1 => by rw [outN, List.length_append, outN_len kl il n, tgL_len]; omega
def tgs (n : Nat) : Nat := (n + 31) / 32
theorem tgs_ge (n : Nat) : n ≤ 32 * tgs n := by unfold tgs; omega
theorem tgs_of {n k : Nat} (h1 : 32 * k < n) (h2 : n ≤ 32 * (k + 1)) : k + 1 = tgs n := by unfold tgs; omega
/-- So many bytes, expanded of a key. -/
def expN (kl il : List UInt8) (n : Nat) : List UInt8 := (outN kl il (tgs n)).take n
theorem expN_len (kl il : List UInt8) (n : Nat) : (expN kl il n).length = n := by
  rw [expN, List.length_take, outN_len]
  have := tgs_ge n
  omega
theorem outN_take (kl il : List UInt8) {m n : Nat} (h : m ≤ n) : (outN kl il n).take (32 * m) = outN kl il m := by
  induction n with
  | zero => rw [show m = 0 from by omega]; rfl
  | succ n ih =>
    by_cases hm : m = n + 1
    · subst hm; rw [List.take_of_length_le (by rw [outN_len]; omega)]
    · rw [outN, List.take_append_of_le_length (by rw [outN_len]; omega), ih (by omega)]
theorem exp_fewer (kl il : List UInt8) (m n : Nat) : (expN kl il (m + n)).take m = expN kl il m := by
  rw [expN, List.take_take, Nat.min_eq_left (by omega), expN]
  have h : tgs m ≤ tgs (m + n) := by unfold tgs; omega
  rw [← outN_take kl il h, List.take_take, Nat.min_eq_left (tgs_ge m)]
def preL : List UInt8 := [111, 117, 98, 108, 105, 101, 116, 116, 101, 32]
def infoL (sl : List UInt8) : List UInt8 := [0, 32] ++ [UInt8.ofNat (preL ++ sl).length] ++ (preL ++ sl)
theorem put_32 : putL 32 2 = [0, 32] := by decide
theorem infoL_len (sl : List UInt8) : (infoL sl).length = 13 + sl.length := by simp [infoL, preL]; omega
/-- A key that is derived of another, by a label. -/
def derL (kl sl : List UInt8) : List UInt8 := outN kl (infoL sl) 1
theorem derL_len (kl sl : List UInt8) : (derL kl sl).length = 32 := outN_len _ _ 1
theorem ofNat_256 (n : Nat) : UInt8.ofNat (n % 256) = UInt8.ofNat n := by
  apply UInt8.toNat_inj.1
  simp
def chL (kl sl : List UInt8) : Nat → List UInt8
  | 0 => kl
  | n + 1 => derL (chL kl sl n) sl
theorem chL_le (kl sl : List UInt8) (n : Nat) (h : kl.length ≤ 1000) : (chL kl sl n).length ≤ 1000 := by
  cases n with
  | zero => exact h
  | succ n => rw [chL, derL_len]; omega
theorem chL_add (kl sl : List UInt8) : ∀ m n, chL (chL kl sl m) sl n = chL kl sl (m + n)
  | _, 0 => rfl
  | m, n + 1 => by rw [chL, chL_add kl sl m n]; rfl
theorem chL_32 (kl sl : List UInt8) (n : Nat) : (chL kl sl (n + 1)).length = 32 := derL_len _ _
theorem rdX3 {w0 : World} {L : List Own} {v : Value} {t n : Nat} {kl il : List UInt8} (i : Nat) (h : L[i]? = some (.row t v (ls vb (outN kl il (tgs n))))) : RdM (Mm w0 L) (slc3 v 0 n n) (ls vb (expN kl il n)) := rdR3 i h (by rw [outN_len]; exact tgs_ge n)
theorem rdX2 {w0 : World} {L : List Own} {v : Value} {t n : Nat} {kl il : List UInt8} (i : Nat) (h : L[i]? = some (.row t v (ls vb (outN kl il (tgs n))))) : RdM (Mm w0 L) (slc v 0 n) (ls vb (expN kl il n)) := rdR2 i h (by rw [outN_len]; exact tgs_ge n)
end Go.Proofs.YtcdidapkpfnphaaDoor
