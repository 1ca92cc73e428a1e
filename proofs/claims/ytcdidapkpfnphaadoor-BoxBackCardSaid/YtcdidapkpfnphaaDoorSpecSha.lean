/- What the functions of sums come to, in plain Lean. -/
import Derived.Test.YtcdidapkpfnphaaDoorLibJ
namespace Go.Proofs.YtcdidapkpfnphaaDoor
open Go.RowKit
/-- A word turned to the right by n (from 1 to 31). -/
def rotR (x : UInt32) (n : Nat) : UInt32 := x <<< UInt32.ofNat (32 - n) ||| x >>> UInt32.ofNat n
theorem rot_c {n : Nat} (h0 : 1 ≤ n) (h : n ≤ 31) : IntKind.u64.wrap (-(n : Int)) = ((UInt64.ofNat (18446744073709551616 - n)).toNat : Int) := by
  simp [IntKind.wrap, IntKind.bits, IntKind.signed]
  omega
theorem rot_a {n : Nat} (h0 : 1 ≤ n) (h : n ≤ 31) : UInt64.ofNat (18446744073709551616 - n) &&& 31 = UInt64.ofNat (32 - n) := by
  have : ∀ n : Fin 31, UInt64.ofNat (18446744073709551616 - (n.val + 1)) &&& 31 = UInt64.ofNat (32 - (n.val + 1)) := by decide +kernel
  have h1 := this ⟨n - 1, by omega⟩
  simp only [show n - 1 + 1 = n from by omega] at h1
  exact h1
theorem rot_m {n : Nat} (h : n ≤ 31) : ((UInt64.ofNat (32 - n)).toNat : Int) = ((32 - n : Nat) : Int) := by
  simp
  omega
theorem rot_s {n : Nat} (h0 : 1 ≤ n) (h : n ≤ 31) : (32 : UInt64) - UInt64.ofNat (32 - n) = UInt64.ofNat n := by
  have : ∀ n : Fin 31, (32 : UInt64) - UInt64.ofNat (32 - (n.val + 1)) = UInt64.ofNat (n.val + 1) := by decide +kernel
  have h1 := this ⟨n - 1, by omega⟩
  simp only [show n - 1 + 1 = n from by omega] at h1
  exact h1
theorem rot_n {n : Nat} (h : n ≤ 31) : ((UInt64.ofNat n).toNat : Int) = ((n : Nat) : Int) := by
  simp
  omega
def lowW (x : UInt32) : UInt32 := rotR x 7 ^^^ rotR x 18 ^^^ x >>> UInt32.ofNat 3
def highW (x : UInt32) : UInt32 := rotR x 17 ^^^ rotR x 19 ^^^ x >>> UInt32.ofNat 10
/-- The bytes of a number, the greatest first. -/
def putN (n : UInt64) (size k : Nat) : List UInt8 := (List.range k).map fun j => (n >>> UInt64.ofNat (8 * (size - 1 - j))).toUInt8
def putL (n : UInt64) (size : Nat) : List UInt8 := putN n size size
theorem putN_len (n : UInt64) (size k : Nat) : (putN n size k).length = k := by simp [putN]
theorem putN_next (n : UInt64) (size k : Nat) : putN n size k ++ [(n >>> UInt64.ofNat (8 * (size - 1 - k))).toUInt8] = putN n size (k + 1) := by simp [putN, List.range_succ]
theorem conv_qb (x : UInt64) : IntKind.u8.wrap (x.toNat : Int) = ((x.toUInt8).toNat : Int) := by rw [wrapm_u8]; simp
theorem conv_bq (x : UInt8) : IntKind.u64.wrap (x.toNat : Int) = ((x.toUInt64).toNat : Int) := by rw [wrapm_u64]; have := x.toNat_lt; simp; try omega
def getN (l : List UInt8) : UInt64 := l.foldl (fun n c => n <<< UInt64.ofNat 8 ||| c.toUInt64) 0
theorem getN_next {l : List UInt8} {k : Nat} (h : k < l.length) : getN (l.take k) <<< UInt64.ofNat 8 ||| (l.getD k 0).toUInt64 = getN (l.take (k + 1)) := by
  have e : l.take (k + 1) = l.take k ++ [l.getD k 0] := by
    rw [List.take_add_one]
    simp [List.getD_eq_getElem?_getD, h]
  rw [getN, getN, e, List.foldl_append]
  rfl
section
variable {P : Program} {s : Sl} {M : As} {o : Oper}
theorem y_negn {t : TypeId} {x : Operand} {n : Nat} (ho : o.op = .unOp .neg t x) (hx : ev s x = some (vi n)) (h : n ≤ 9223372036854775807) : Yl P s M o (.int .i64 (-(n : Int))) := y_un ho hx fun w => by
  have e : IntKind.i64.wrap (-(n : Int)) = -(n : Int) := wrap_int64 (by omega) (by omega)
  simp [Op.unary, Op.intArith, e]
end
end Go.Proofs.YtcdidapkpfnphaaDoor
