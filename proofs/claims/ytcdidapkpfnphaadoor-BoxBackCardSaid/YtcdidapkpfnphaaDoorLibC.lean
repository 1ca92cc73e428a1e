/- Words of my own for operations on numbers: what each yields. -/
import Derived.Test.YtcdidapkpfnphaaDoorLibB
namespace Go.Proofs.YtcdidapkpfnphaaDoor
open Go.RowKit

abbrev vb (x : UInt8) : Value := .int .u8 (x.toNat : Int)
abbrev vw (x : UInt32) : Value := .int .u32 (x.toNat : Int)
abbrev vq (x : UInt64) : Value := .int .u64 (x.toNat : Int)
abbrev vi (n : Nat) : Value := .int .i64 (n : Int)
section
variable {P : Program} {s : Sl} {M : As} {o : Oper}
theorem y_move {x : Operand} {v : Value} (ho : o.op = .move x) (hx : ev s x = some v) : Yl P s M o v := fun a ha w _ => by
  simp only [execOp, ho, ha x v hx]; rfl
theorem y_assign {x : Operand} {v : Value} (ho : o.op = .assign x) (hx : ev s x = some v) : Yl P s M o v := fun a ha w _ => by
  simp only [execOp, ho, ha x v hx]; rfl
theorem y_pick {c x y : Operand} {b : Bool} {v : Value} (ho : o.op = .pick c x y) (hc : ev s c = some (.bool b)) (hx : ev s (bif b then x else y) = some v) : Yl P s M o v := fun a ha w _ => by
  have h := ha _ v hx
  simp only [execOp, ho, ha c _ hc, asBool, Sem.run_bind, Sem.run_pure, Result.andThen_ok]
  cases b with
  | true => simp only [cond_true] at h; simp [h]
  | false => simp only [cond_false] at h; simp [h]
/-- Two numbers of one kind. -/
theorem y_bin {op : BinOp} {t ty : TypeId} {x y : Operand} {k k' : IntKind} {p q : Int} {v : Value} (ho : o.op = .binOp op t x y ty) (hx : ev s x = some (.int k p)) (hy : ev s y = some (.int k' q))
    (h : ∀ w, (binOp op t (.int k p) (.int k' q)).run P w = .ok v w) : Yl P s M o v := fun a ha w _ => by
  have hg : (eqGuard op t x y (.int k p) (.int k' q)).run P w = .ok () w := by
    unfold eqGuard
    cases op <;> rfl
  simp only [execOp, ho, ha x _ hx, ha y _ hy, Sem.run_bind, hg, Result.andThen_ok, h w]
  rfl
theorem y_un {op : UnOp} {t : TypeId} {x : Operand} {p v : Value} (ho : o.op = .unOp op t x) (hx : ev s x = some p) (h : ∀ w, (Op.unary op p).run P w = .ok v w) : Yl P s M o v := fun a ha w _ => by
  simp only [execOp, ho, ha x _ hx, Sem.run_bind, h w, Result.andThen_ok]
  rfl
theorem y_not {t : TypeId} {x : Operand} {b : Bool} (ho : o.op = .unOp .not t x) (hx : ev s x = some (.bool b)) : Yl P s M o (.bool !b) := y_un ho hx fun _ => rfl
theorem wrap_i64_eq (m : Int) : IntKind.i64.wrap m = if 9223372036854775808 ≤ m % 18446744073709551616 then m % 18446744073709551616 - 18446744073709551616 else m % 18446744073709551616 := by
  simp [IntKind.wrap, IntKind.bits, IntKind.signed]
theorem wrap_nat64 {m : Nat} (h : m ≤ 9223372036854775807) : IntKind.i64.wrap (m : Int) = (m : Int) := by
  rw [wrap_i64_eq]
  split <;> omega
theorem wrap_int64 {m : Int} (h0 : -9223372036854775808 ≤ m) (h : m ≤ 9223372036854775807) : IntKind.i64.wrap m = m := by
  rw [wrap_i64_eq]
  split <;> omega

theorem y_addn {t ty : TypeId} {x y : Operand} {p q : Nat} (ho : o.op = .binOp .add t x y ty) (hx : ev s x = some (vi p)) (hy : ev s y = some (vi q)) (h : p + q ≤ 9223372036854775807) : Yl P s M o (vi (p + q)) := y_bin ho hx hy fun w => by
  have e : IntKind.i64.wrap ((p : Int) + (q : Int)) = ((p + q : Nat) : Int) := by rw [← Int.natCast_add]; exact wrap_nat64 h
  simp [binOp, Op.intArith, e]
theorem y_subn {t ty : TypeId} {x y : Operand} {p q : Nat} (ho : o.op = .binOp .sub t x y ty) (hx : ev s x = some (vi p)) (hy : ev s y = some (vi q)) (h : q ≤ p) (h1 : p ≤ 9223372036854775807) : Yl P s M o (vi (p - q)) := y_bin ho hx hy fun w => by
  have e : IntKind.i64.wrap ((p : Int) - (q : Int)) = ((p - q : Nat) : Int) := by rw [show (p : Int) - (q : Int) = ((p - q : Nat) : Int) from by omega]; exact wrap_nat64 (by omega)
  simp [binOp, Op.intArith, e]
theorem y_muln {t ty : TypeId} {x y : Operand} {p q : Nat} (ho : o.op = .binOp .mul t x y ty) (hx : ev s x = some (vi p)) (hy : ev s y = some (vi q)) (h : p * q ≤ 9223372036854775807) : Yl P s M o (vi (p * q)) := y_bin ho hx hy fun w => by
  have e : IntKind.i64.wrap ((p : Int) * (q : Int)) = ((p * q : Nat) : Int) := by rw [← Int.natCast_mul]; exact wrap_nat64 h
  simp [binOp, Op.intArith, e]
theorem y_quon {t ty : TypeId} {x y : Operand} {p q : Nat} (ho : o.op = .binOp .quo t x y ty) (hx : ev s x = some (vi p)) (hy : ev s y = some (vi q)) (h : 0 < q) (h1 : p ≤ 9223372036854775807) : Yl P s M o (vi (p / q)) := y_bin ho hx hy fun w => by
  have e : IntKind.i64.wrap ((p : Int).tdiv (q : Int)) = ((p / q : Nat) : Int) := by
    rw [show (p : Int).tdiv (q : Int) = ((p / q : Nat) : Int) from by rw [Int.tdiv_eq_ediv_of_nonneg (by omega)]; rfl]
    exact wrap_nat64 (Nat.le_trans (Nat.div_le_self p q) h1)
  have hq : ¬ ((q : Int) = 0) := by omega
  simp only [binOp, Op.intDiv, if_neg hq]
  exact congrArg (fun z => Result.ok (Value.int .i64 z) w) e
theorem y_remn {t ty : TypeId} {x y : Operand} {p q : Nat} (ho : o.op = .binOp .rem t x y ty) (hx : ev s x = some (vi p)) (hy : ev s y = some (vi q)) (h : 0 < q) : Yl P s M o (vi (p % q)) := y_bin ho hx hy fun w => by
  have e : (p : Int).tmod (q : Int) = ((p % q : Nat) : Int) := by rw [Int.natCast_emod]; exact Int.tmod_eq_emod_of_nonneg (by omega)
  have hq : ¬ (q = 0) := by omega
  simp [binOp, Op.intDiv, e, hq]
theorem y_lssn {t ty : TypeId} {x y : Operand} {p q : Nat} (ho : o.op = .binOp .lss t x y ty) (hx : ev s x = some (vi p)) (hy : ev s y = some (vi q)) : Yl P s M o (.bool (decide (p < q))) := y_bin ho hx hy fun w => by
  simp [binOp, Op.intCmp]
theorem y_leqn {t ty : TypeId} {x y : Operand} {p q : Nat} (ho : o.op = .binOp .leq t x y ty) (hx : ev s x = some (vi p)) (hy : ev s y = some (vi q)) : Yl P s M o (.bool (decide (p ≤ q))) := y_bin ho hx hy fun w => by
  simp [binOp, Op.intCmp]
theorem y_gtrn {t ty : TypeId} {x y : Operand} {p q : Nat} (ho : o.op = .binOp .gtr t x y ty) (hx : ev s x = some (vi p)) (hy : ev s y = some (vi q)) : Yl P s M o (.bool (decide (q < p))) := y_bin ho hx hy fun w => by
  simp [binOp, Op.intCmp]
theorem y_geqn {t ty : TypeId} {x y : Operand} {p q : Nat} (ho : o.op = .binOp .geq t x y ty) (hx : ev s x = some (vi p)) (hy : ev s y = some (vi q)) : Yl P s M o (.bool (decide (q ≤ p))) := y_bin ho hx hy fun w => by
  simp [binOp, Op.intCmp]
theorem y_eqln {t ty : TypeId} {x y : Operand} {p q : Nat} (ho : o.op = .binOp .eql t x y ty) (hx : ev s x = some (vi p)) (hy : ev s y = some (vi q)) : Yl P s M o (.bool (decide (p = q))) := y_bin ho hx hy fun w => by
  have e : ((p : Int) == (q : Int)) = decide (p = q) := by
    rw [Bool.eq_iff_iff]; simp; omega
  simp only [binOp, Op.intCmp, e]; rfl
theorem y_neqn {t ty : TypeId} {x y : Operand} {p q : Nat} (ho : o.op = .binOp .neq t x y ty) (hx : ev s x = some (vi p)) (hy : ev s y = some (vi q)) : Yl P s M o (.bool (decide (p ≠ q))) := y_bin ho hx hy fun w => by
  have e : ((p : Int) != (q : Int)) = decide (p ≠ q) := by
    rw [Bool.eq_iff_iff]; simp; omega
  simp only [binOp, Op.intCmp, e]; rfl
theorem y_shrn {t ty : TypeId} {x y : Operand} {p : Nat} {k : IntKind} {q : Int} (m : Nat) (ho : o.op = .binOp .shr t x y ty) (hx : ev s x = some (vi p)) (hy : ev s y = some (.int k q)) (hq : q = (m : Int)) (hm : m < 64) : Yl P s M o (vi (p / 2 ^ m)) := y_bin ho hx hy fun w => by
  subst hq
  have h0 : ¬ ((m : Int) < 0) := by omega
  have h1 : min ((m : Int).toNat) (IntKind.i64.bits) = m := by simp [IntKind.bits]; omega
  have e : ((p : Int).fdiv (2 ^ m)) = ((p / 2 ^ m : Nat) : Int) := by
    rw [Int.fdiv_eq_ediv_of_nonneg _ (by exact Int.pow_nonneg (by omega)), Int.natCast_ediv, Int.natCast_pow]
    rfl
  simp only [binOp, Op.shift, h0, if_false]
  show Result.ok (Value.int .i64 ((p : Int).fdiv (2 ^ (min ((m : Int).toNat) (IntKind.i64.bits))))) w = _
  rw [h1, e]
theorem y_andn1 {t ty : TypeId} {x y : Operand} {p : Nat} (ho : o.op = .binOp .and t x y ty) (hx : ev s x = some (vi p)) (hy : ev s y = some (.int .i64 1)) (h : p ≤ 9223372036854775807) : Yl P s M o (vi (p % 2)) := y_bin ho hx hy fun w => by
  have e1 : (BitVec.ofInt 64 (p : Int) &&& BitVec.ofInt 64 1).toNat = p % 2 := by
    rw [BitVec.ofInt_natCast, show BitVec.ofInt 64 1 = BitVec.ofNat 64 1 from rfl, BitVec.toNat_and, BitVec.toNat_ofNat, BitVec.toNat_ofNat, Nat.mod_eq_of_lt (by omega)]
    exact Nat.and_one_is_mod p
  have e : IntKind.i64.wrap ((BitVec.ofInt 64 (p : Int) &&& BitVec.ofInt 64 1).toNat : Int) = ((p % 2 : Nat) : Int) := by rw [e1]; exact wrap_nat64 (by omega)
  exact congrArg (fun z => Result.ok (Value.int .i64 z) w) e
theorem y_minn {x y : Operand} {ats : Array TypeId} {p q : Nat} (ho : o.op = .call { callee := .builtin .min, args := #[x, y], argTypes := ats }) (hx : ev s x = some (vi p)) (hy : ev s y = some (vi q)) : Yl P s M o (vi (min p q)) := fun a ha w _ => by
  have e : (if q < p then (q : Int) else (p : Int)) = ((min p q : Nat) : Int) := by split <;> omega
  simp [execOp, ho, resolve, invoke, builtin, Builtin.min_, Builtin.min2, ha x _ hx, ha y _ hy, e]
theorem y_maxi {x y : Operand} {ats : Array TypeId} {p q : Int} (ho : o.op = .call { callee := .builtin .max, args := #[x, y], argTypes := ats }) (hx : ev s x = some (.int .i64 p)) (hy : ev s y = some (.int .i64 q)) : Yl P s M o (.int .i64 (max p q)) := fun a ha w _ => by
  have e : (if p < q then q else p) = max p q := by split <;> omega
  simp [execOp, ho, resolve, invoke, builtin, Builtin.max_, Builtin.max2, ha x _ hx, ha y _ hy, e]
theorem y_addi {t ty : TypeId} {x y : Operand} {p q : Int} (ho : o.op = .binOp .add t x y ty) (hx : ev s x = some (.int .i64 p)) (hy : ev s y = some (.int .i64 q)) (h0 : -9223372036854775808 ≤ p + q) (h1 : p + q ≤ 9223372036854775807) : Yl P s M o (.int .i64 (p + q)) := y_bin ho hx hy fun w => by
  simp [binOp, Op.intArith, wrap_int64 h0 h1]
theorem y_subi {t ty : TypeId} {x y : Operand} {p q : Int} (ho : o.op = .binOp .sub t x y ty) (hx : ev s x = some (.int .i64 p)) (hy : ev s y = some (.int .i64 q)) (h0 : -9223372036854775808 ≤ p - q) (h1 : p - q ≤ 9223372036854775807) : Yl P s M o (.int .i64 (p - q)) := y_bin ho hx hy fun w => by
  simp [binOp, Op.intArith, wrap_int64 h0 h1]
theorem y_muli {t ty : TypeId} {x y : Operand} {p q : Int} (ho : o.op = .binOp .mul t x y ty) (hx : ev s x = some (.int .i64 p)) (hy : ev s y = some (.int .i64 q)) (h0 : -9223372036854775808 ≤ p * q) (h1 : p * q ≤ 9223372036854775807) : Yl P s M o (.int .i64 (p * q)) := y_bin ho hx hy fun w => by
  simp [binOp, Op.intArith, wrap_int64 h0 h1]
theorem y_remi {t ty : TypeId} {x y : Operand} {p q : Int} (ho : o.op = .binOp .rem t x y ty) (hx : ev s x = some (.int .i64 p)) (hy : ev s y = some (.int .i64 q)) (h : 0 < q) (h1 : 0 ≤ p) : Yl P s M o (.int .i64 (p % q)) := y_bin ho hx hy fun w => by
  have e : p.tmod q = p % q := Int.tmod_eq_emod_of_nonneg h1
  have hq : (q = 0) = False := by simp; omega
  simp [binOp, Op.intDiv, e, hq]
theorem y_remt {t ty : TypeId} {x y : Operand} {p q : Int} (ho : o.op = .binOp .rem t x y ty) (hx : ev s x = some (.int .i64 p)) (hy : ev s y = some (.int .i64 q)) (h : 0 < q) : Yl P s M o (.int .i64 (p.tmod q)) := y_bin ho hx hy fun w => by
  have hq : (q = 0) = False := by simp; omega
  simp [binOp, Op.intDiv, hq]
theorem y_quoi {t ty : TypeId} {x y : Operand} {p q : Int} (ho : o.op = .binOp .quo t x y ty) (hx : ev s x = some (.int .i64 p)) (hy : ev s y = some (.int .i64 q)) (h : 0 < q) (h1 : 0 ≤ p) (h2 : p ≤ 9223372036854775807) : Yl P s M o (.int .i64 (p / q)) := y_bin ho hx hy fun w => by
  have e : p.tdiv q = p / q := Int.tdiv_eq_ediv_of_nonneg h1
  have hq : (q = 0) = False := by simp; omega
  have hd : p / q ≤ p := Int.ediv_le_self q h1
  have hz : 0 ≤ p / q := Int.ediv_nonneg h1 (by omega)
  simp [binOp, Op.intDiv, e, hq, wrap_int64 (m := p / q) (by omega) (by omega)]
theorem y_lssi {t ty : TypeId} {x y : Operand} {p q : Int} (ho : o.op = .binOp .lss t x y ty) (hx : ev s x = some (.int .i64 p)) (hy : ev s y = some (.int .i64 q)) : Yl P s M o (.bool (decide (p < q))) := y_bin ho hx hy fun w => by
  simp [binOp, Op.intCmp]
theorem y_leqi {t ty : TypeId} {x y : Operand} {p q : Int} (ho : o.op = .binOp .leq t x y ty) (hx : ev s x = some (.int .i64 p)) (hy : ev s y = some (.int .i64 q)) : Yl P s M o (.bool (decide (p ≤ q))) := y_bin ho hx hy fun w => by
  simp [binOp, Op.intCmp]
theorem y_gtri {t ty : TypeId} {x y : Operand} {p q : Int} (ho : o.op = .binOp .gtr t x y ty) (hx : ev s x = some (.int .i64 p)) (hy : ev s y = some (.int .i64 q)) : Yl P s M o (.bool (decide (q < p))) := y_bin ho hx hy fun w => by
  simp [binOp, Op.intCmp]
theorem y_geqi {t ty : TypeId} {x y : Operand} {p q : Int} (ho : o.op = .binOp .geq t x y ty) (hx : ev s x = some (.int .i64 p)) (hy : ev s y = some (.int .i64 q)) : Yl P s M o (.bool (decide (q ≤ p))) := y_bin ho hx hy fun w => by
  simp [binOp, Op.intCmp]
theorem y_eqli {t ty : TypeId} {x y : Operand} {p q : Int} (ho : o.op = .binOp .eql t x y ty) (hx : ev s x = some (.int .i64 p)) (hy : ev s y = some (.int .i64 q)) : Yl P s M o (.bool (decide (p = q))) := y_bin ho hx hy fun w => by
  have e : (p == q) = decide (p = q) := by rw [Bool.eq_iff_iff]; simp
  simp only [binOp, Op.intCmp, e]; rfl
theorem y_neqi {t ty : TypeId} {x y : Operand} {p q : Int} (ho : o.op = .binOp .neq t x y ty) (hx : ev s x = some (.int .i64 p)) (hy : ev s y = some (.int .i64 q)) : Yl P s M o (.bool (decide (p ≠ q))) := y_bin ho hx hy fun w => by
  have e : (p != q) = decide (p ≠ q) := by rw [Bool.eq_iff_iff]; simp
  simp only [binOp, Op.intCmp, e]; rfl
theorem wrapm_u8 (m : Nat) : IntKind.u8.wrap (m : Int) = ((m % 2 ^ 8 : Nat) : Int) := by
  simp [IntKind.wrap, IntKind.bits, IntKind.signed]
theorem wrap_u8 {m : Nat} (h : m < 2 ^ 8) : IntKind.u8.wrap (m : Int) = (m : Int) := by
  rw [wrapm_u8, Nat.mod_eq_of_lt h]
theorem bv_u8 (p : UInt8) : BitVec.ofInt 8 (p.toNat : Int) = p.toBitVec := by
  rw [BitVec.ofInt_natCast]
  exact BitVec.eq_of_toNat_eq (by simp)
theorem back_u8 (p : UInt8) : IntKind.u8.wrap (p.toBitVec.toNat : Int) = (p.toNat : Int) := wrap_u8 p.toBitVec.isLt
theorem y_andb {t ty : TypeId} {x y : Operand} {p q : UInt8} (ho : o.op = .binOp .and t x y ty) (hx : ev s x = some (vb p)) (hy : ev s y = some (vb q)) : Yl P s M o (vb (p &&& q)) := y_bin ho hx hy fun w => by
  have e : IntKind.u8.wrap ((BitVec.ofInt 8 (p.toNat : Int) &&& BitVec.ofInt 8 (q.toNat : Int)).toNat : Int) = ((p &&& q).toNat : Int) := by rw [bv_u8, bv_u8]; exact back_u8 (p &&& q)
  exact congrArg (fun z => Result.ok (Value.int .u8 z) w) e
theorem y_orb {t ty : TypeId} {x y : Operand} {p q : UInt8} (ho : o.op = .binOp .or t x y ty) (hx : ev s x = some (vb p)) (hy : ev s y = some (vb q)) : Yl P s M o (vb (p ||| q)) := y_bin ho hx hy fun w => by
  have e : IntKind.u8.wrap ((BitVec.ofInt 8 (p.toNat : Int) ||| BitVec.ofInt 8 (q.toNat : Int)).toNat : Int) = ((p ||| q).toNat : Int) := by rw [bv_u8, bv_u8]; exact back_u8 (p ||| q)
  exact congrArg (fun z => Result.ok (Value.int .u8 z) w) e
theorem y_xorb {t ty : TypeId} {x y : Operand} {p q : UInt8} (ho : o.op = .binOp .xor t x y ty) (hx : ev s x = some (vb p)) (hy : ev s y = some (vb q)) : Yl P s M o (vb (p ^^^ q)) := y_bin ho hx hy fun w => by
  have e : IntKind.u8.wrap ((BitVec.ofInt 8 (p.toNat : Int) ^^^ BitVec.ofInt 8 (q.toNat : Int)).toNat : Int) = ((p ^^^ q).toNat : Int) := by rw [bv_u8, bv_u8]; exact back_u8 (p ^^^ q)
  exact congrArg (fun z => Result.ok (Value.int .u8 z) w) e
theorem y_addb {t ty : TypeId} {x y : Operand} {p q : UInt8} (ho : o.op = .binOp .add t x y ty) (hx : ev s x = some (vb p)) (hy : ev s y = some (vb q)) : Yl P s M o (vb (p + q)) := y_bin ho hx hy fun w => by
  have e : IntKind.u8.wrap ((p.toNat : Int) + (q.toNat : Int)) = ((p + q).toNat : Int) := by rw [← Int.natCast_add, wrapm_u8, UInt8.toNat_add]
  exact congrArg (fun z => Result.ok (Value.int .u8 z) w) e
theorem y_mulb {t ty : TypeId} {x y : Operand} {p q : UInt8} (ho : o.op = .binOp .mul t x y ty) (hx : ev s x = some (vb p)) (hy : ev s y = some (vb q)) : Yl P s M o (vb (p * q)) := y_bin ho hx hy fun w => by
  have e : IntKind.u8.wrap ((p.toNat : Int) * (q.toNat : Int)) = ((p * q).toNat : Int) := by rw [← Int.natCast_mul, wrapm_u8, UInt8.toNat_mul]
  exact congrArg (fun z => Result.ok (Value.int .u8 z) w) e
theorem y_subb {t ty : TypeId} {x y : Operand} {p q : UInt8} (ho : o.op = .binOp .sub t x y ty) (hx : ev s x = some (vb p)) (hy : ev s y = some (vb q)) : Yl P s M o (vb (p - q)) := y_bin ho hx hy fun w => by
  have e : IntKind.u8.wrap ((p.toNat : Int) - (q.toNat : Int)) = ((p - q).toNat : Int) := by
    have hq : q.toNat < 2 ^ 8 := q.toBitVec.isLt
    have hp : p.toNat < 2 ^ 8 := p.toBitVec.isLt
    rw [UInt8.toNat_sub]
    simp only [IntKind.wrap, IntKind.bits, IntKind.signed, Bool.false_and, Bool.false_eq_true, if_false]
    omega
  exact congrArg (fun z => Result.ok (Value.int .u8 z) w) e
theorem y_lssb {t ty : TypeId} {x y : Operand} {p q : UInt8} (ho : o.op = .binOp .lss t x y ty) (hx : ev s x = some (vb p)) (hy : ev s y = some (vb q)) : Yl P s M o (.bool (decide (p.toNat < q.toNat))) := y_bin ho hx hy fun w => by
  simp [binOp, Op.intCmp]
theorem y_leqb {t ty : TypeId} {x y : Operand} {p q : UInt8} (ho : o.op = .binOp .leq t x y ty) (hx : ev s x = some (vb p)) (hy : ev s y = some (vb q)) : Yl P s M o (.bool (decide (p.toNat ≤ q.toNat))) := y_bin ho hx hy fun w => by
  simp [binOp, Op.intCmp]
theorem y_gtrb {t ty : TypeId} {x y : Operand} {p q : UInt8} (ho : o.op = .binOp .gtr t x y ty) (hx : ev s x = some (vb p)) (hy : ev s y = some (vb q)) : Yl P s M o (.bool (decide (q.toNat < p.toNat))) := y_bin ho hx hy fun w => by
  simp [binOp, Op.intCmp]
theorem y_geqb {t ty : TypeId} {x y : Operand} {p q : UInt8} (ho : o.op = .binOp .geq t x y ty) (hx : ev s x = some (vb p)) (hy : ev s y = some (vb q)) : Yl P s M o (.bool (decide (q.toNat ≤ p.toNat))) := y_bin ho hx hy fun w => by
  simp [binOp, Op.intCmp]
theorem y_eqlb {t ty : TypeId} {x y : Operand} {p q : UInt8} (ho : o.op = .binOp .eql t x y ty) (hx : ev s x = some (vb p)) (hy : ev s y = some (vb q)) : Yl P s M o (.bool (decide (p = q))) := y_bin ho hx hy fun w => by
  have e : ((p.toNat : Int) == (q.toNat : Int)) = decide (p = q) := by
    rw [Bool.eq_iff_iff]; simp [← UInt8.toNat_inj]; omega
  simp only [binOp, Op.intCmp, e]; rfl
theorem y_neqb {t ty : TypeId} {x y : Operand} {p q : UInt8} (ho : o.op = .binOp .neq t x y ty) (hx : ev s x = some (vb p)) (hy : ev s y = some (vb q)) : Yl P s M o (.bool (decide (p ≠ q))) := y_bin ho hx hy fun w => by
  have e : ((p.toNat : Int) != (q.toNat : Int)) = decide (p ≠ q) := by
    rw [Bool.eq_iff_iff]; simp [← UInt8.toNat_inj]; omega
  simp only [binOp, Op.intCmp, e]; rfl
theorem y_quob {t ty : TypeId} {x y : Operand} {p q : UInt8} (ho : o.op = .binOp .quo t x y ty) (hx : ev s x = some (vb p)) (hy : ev s y = some (vb q)) (h : q ≠ 0) : Yl P s M o (vb (p / q)) := y_bin ho hx hy fun w => by
  have h0 : q.toNat ≠ 0 := fun e => h (UInt8.toNat_inj.1 (by simpa using e))
  have e : IntKind.u8.wrap ((p.toNat : Int).tdiv (q.toNat : Int)) = ((p / q).toNat : Int) := by
    rw [Int.tdiv_eq_ediv_of_nonneg (by omega), ← Int.natCast_ediv, wrap_u8 (Nat.lt_of_le_of_lt (Nat.div_le_self _ _) (UInt8.toNat_lt p)), UInt8.toNat_div]
  have hq : ¬ ((q.toNat : Int) = 0) := by omega
  simp only [binOp, Op.intDiv, if_neg hq]
  exact congrArg (fun z => Result.ok (Value.int .u8 z) w) e
theorem y_remb {t ty : TypeId} {x y : Operand} {p q : UInt8} (ho : o.op = .binOp .rem t x y ty) (hx : ev s x = some (vb p)) (hy : ev s y = some (vb q)) (h : q ≠ 0) : Yl P s M o (vb (p % q)) := y_bin ho hx hy fun w => by
  have h0 : q.toNat ≠ 0 := fun e => h (UInt8.toNat_inj.1 (by simpa using e))
  have e : (p.toNat : Int).tmod (q.toNat : Int) = ((p % q).toNat : Int) := by
    rw [Int.tmod_eq_emod_of_nonneg (by omega), ← Int.natCast_emod, UInt8.toNat_mod]
  have hq : ¬ (q.toNat = 0) := h0
  simp [binOp, Op.intDiv, e, hq]
theorem y_shlb {t ty : TypeId} {x y : Operand} {p : UInt8} {k : IntKind} {q : Int} (m : Nat) (ho : o.op = .binOp .shl t x y ty) (hx : ev s x = some (vb p)) (hy : ev s y = some (.int k q)) (hq : q = (m : Int)) (hm : m < 8) : Yl P s M o (vb (p <<< UInt8.ofNat m)) := y_bin ho hx hy fun w => by
  subst hq
  have h0 : ¬ ((m : Int) < 0) := by omega
  have h1 : min ((m : Int).toNat) (IntKind.u8.bits) = m := by simp [IntKind.bits]; omega
  have e : IntKind.u8.wrap ((p.toNat : Int) * 2 ^ m) = ((p <<< UInt8.ofNat m).toNat : Int) := by
    have e0 : (p <<< UInt8.ofNat m).toNat = p.toNat <<< m % 2 ^ 8 := by
      have h2 : m % 2 ^ 8 = m := Nat.mod_eq_of_lt (by omega)
      have h3 : m % 8 = m := Nat.mod_eq_of_lt hm
      rw [UInt8.toNat_shiftLeft, UInt8.toNat_ofNat', h2, h3]
    rw [e0, show (p.toNat : Int) * 2 ^ m = ((p.toNat <<< m : Nat) : Int) from by rw [Nat.shiftLeft_eq, Int.natCast_mul, Int.natCast_pow]; rfl, wrapm_u8]
  simp only [binOp, Op.shift, h0, if_false]
  show Result.ok (Value.int .u8 (IntKind.u8.wrap ((p.toNat : Int) * 2 ^ (min ((m : Int).toNat) (IntKind.u8.bits))))) w = _
  rw [h1, e]
theorem y_shrb {t ty : TypeId} {x y : Operand} {p : UInt8} {k : IntKind} {q : Int} (m : Nat) (ho : o.op = .binOp .shr t x y ty) (hx : ev s x = some (vb p)) (hy : ev s y = some (.int k q)) (hq : q = (m : Int)) (hm : m < 8) : Yl P s M o (vb (p >>> UInt8.ofNat m)) := y_bin ho hx hy fun w => by
  subst hq
  have h0 : ¬ ((m : Int) < 0) := by omega
  have h1 : min ((m : Int).toNat) (IntKind.u8.bits) = m := by simp [IntKind.bits]; omega
  have e : ((p.toNat : Int).fdiv (2 ^ m)) = ((p >>> UInt8.ofNat m).toNat : Int) := by
    have e0 : (p >>> UInt8.ofNat m).toNat = p.toNat / 2 ^ m := by
      have h2 : m % 2 ^ 8 = m := Nat.mod_eq_of_lt (by omega)
      have h3 : m % 8 = m := Nat.mod_eq_of_lt hm
      rw [UInt8.toNat_shiftRight, UInt8.toNat_ofNat', h2, h3, Nat.shiftRight_eq_div_pow]
    rw [e0, Int.fdiv_eq_ediv_of_nonneg _ (by exact Int.pow_nonneg (by omega)), Int.natCast_ediv, Int.natCast_pow]
    rfl
  simp only [binOp, Op.shift, h0, if_false]
  show Result.ok (Value.int .u8 ((p.toNat : Int).fdiv (2 ^ (min ((m : Int).toNat) (IntKind.u8.bits))))) w = _
  rw [h1, e]
theorem y_cmplb {t : TypeId} {x : Operand} {p : UInt8} (ho : o.op = .unOp .xor t x) (hx : ev s x = some (vb p)) : Yl P s M o (vb (~~~p)) := y_un ho hx fun w => by
  have e : IntKind.u8.wrap ((BitVec.ofInt 8 (IntKind.u8.max) ^^^ BitVec.ofInt 8 (p.toNat : Int)).toNat : Int) = ((~~~p).toNat : Int) := by
    rw [bv_u8, show BitVec.ofInt 8 (IntKind.u8.max) = BitVec.allOnes 8 from by decide, BitVec.allOnes_xor]
    exact back_u8 (~~~p)
  exact congrArg (fun z => Result.ok (Value.int .u8 z) w) e
theorem wrapm_u32 (m : Nat) : IntKind.u32.wrap (m : Int) = ((m % 2 ^ 32 : Nat) : Int) := by
  simp [IntKind.wrap, IntKind.bits, IntKind.signed]
theorem wrap_u32 {m : Nat} (h : m < 2 ^ 32) : IntKind.u32.wrap (m : Int) = (m : Int) := by
  rw [wrapm_u32, Nat.mod_eq_of_lt h]
theorem bv_u32 (p : UInt32) : BitVec.ofInt 32 (p.toNat : Int) = p.toBitVec := by
  rw [BitVec.ofInt_natCast]
  exact BitVec.eq_of_toNat_eq (by simp)
theorem back_u32 (p : UInt32) : IntKind.u32.wrap (p.toBitVec.toNat : Int) = (p.toNat : Int) := wrap_u32 p.toBitVec.isLt
theorem y_andw {t ty : TypeId} {x y : Operand} {p q : UInt32} (ho : o.op = .binOp .and t x y ty) (hx : ev s x = some (vw p)) (hy : ev s y = some (vw q)) : Yl P s M o (vw (p &&& q)) := y_bin ho hx hy fun w => by
  have e : IntKind.u32.wrap ((BitVec.ofInt 32 (p.toNat : Int) &&& BitVec.ofInt 32 (q.toNat : Int)).toNat : Int) = ((p &&& q).toNat : Int) := by rw [bv_u32, bv_u32]; exact back_u32 (p &&& q)
  exact congrArg (fun z => Result.ok (Value.int .u32 z) w) e
theorem y_orw {t ty : TypeId} {x y : Operand} {p q : UInt32} (ho : o.op = .binOp .or t x y ty) (hx : ev s x = some (vw p)) (hy : ev s y = some (vw q)) : Yl P s M o (vw (p ||| q)) := y_bin ho hx hy fun w => by
  have e : IntKind.u32.wrap ((BitVec.ofInt 32 (p.toNat : Int) ||| BitVec.ofInt 32 (q.toNat : Int)).toNat : Int) = ((p ||| q).toNat : Int) := by rw [bv_u32, bv_u32]; exact back_u32 (p ||| q)
  exact congrArg (fun z => Result.ok (Value.int .u32 z) w) e
theorem y_xorw {t ty : TypeId} {x y : Operand} {p q : UInt32} (ho : o.op = .binOp .xor t x y ty) (hx : ev s x = some (vw p)) (hy : ev s y = some (vw q)) : Yl P s M o (vw (p ^^^ q)) := y_bin ho hx hy fun w => by
  have e : IntKind.u32.wrap ((BitVec.ofInt 32 (p.toNat : Int) ^^^ BitVec.ofInt 32 (q.toNat : Int)).toNat : Int) = ((p ^^^ q).toNat : Int) := by rw [bv_u32, bv_u32]; exact back_u32 (p ^^^ q)
  exact congrArg (fun z => Result.ok (Value.int .u32 z) w) e
theorem y_addw {t ty : TypeId} {x y : Operand} {p q : UInt32} (ho : o.op = .binOp .add t x y ty) (hx : ev s x = some (vw p)) (hy : ev s y = some (vw q)) : Yl P s M o (vw (p + q)) := y_bin ho hx hy fun w => by
  have e : IntKind.u32.wrap ((p.toNat : Int) + (q.toNat : Int)) = ((p + q).toNat : Int) := by rw [← Int.natCast_add, wrapm_u32, UInt32.toNat_add]
  exact congrArg (fun z => Result.ok (Value.int .u32 z) w) e
theorem y_mulw {t ty : TypeId} {x y : Operand} {p q : UInt32} (ho : o.op = .binOp .mul t x y ty) (hx : ev s x = some (vw p)) (hy : ev s y = some (vw q)) : Yl P s M o (vw (p * q)) := y_bin ho hx hy fun w => by
  have e : IntKind.u32.wrap ((p.toNat : Int) * (q.toNat : Int)) = ((p * q).toNat : Int) := by rw [← Int.natCast_mul, wrapm_u32, UInt32.toNat_mul]
  exact congrArg (fun z => Result.ok (Value.int .u32 z) w) e
theorem y_subw {t ty : TypeId} {x y : Operand} {p q : UInt32} (ho : o.op = .binOp .sub t x y ty) (hx : ev s x = some (vw p)) (hy : ev s y = some (vw q)) : Yl P s M o (vw (p - q)) := y_bin ho hx hy fun w => by
  have e : IntKind.u32.wrap ((p.toNat : Int) - (q.toNat : Int)) = ((p - q).toNat : Int) := by
    have hq : q.toNat < 2 ^ 32 := q.toBitVec.isLt
    have hp : p.toNat < 2 ^ 32 := p.toBitVec.isLt
    rw [UInt32.toNat_sub]
    simp only [IntKind.wrap, IntKind.bits, IntKind.signed, Bool.false_and, Bool.false_eq_true, if_false]
    omega
  exact congrArg (fun z => Result.ok (Value.int .u32 z) w) e
theorem y_lssw {t ty : TypeId} {x y : Operand} {p q : UInt32} (ho : o.op = .binOp .lss t x y ty) (hx : ev s x = some (vw p)) (hy : ev s y = some (vw q)) : Yl P s M o (.bool (decide (p.toNat < q.toNat))) := y_bin ho hx hy fun w => by
  simp [binOp, Op.intCmp]
theorem y_leqw {t ty : TypeId} {x y : Operand} {p q : UInt32} (ho : o.op = .binOp .leq t x y ty) (hx : ev s x = some (vw p)) (hy : ev s y = some (vw q)) : Yl P s M o (.bool (decide (p.toNat ≤ q.toNat))) := y_bin ho hx hy fun w => by
  simp [binOp, Op.intCmp]
theorem y_gtrw {t ty : TypeId} {x y : Operand} {p q : UInt32} (ho : o.op = .binOp .gtr t x y ty) (hx : ev s x = some (vw p)) (hy : ev s y = some (vw q)) : Yl P s M o (.bool (decide (q.toNat < p.toNat))) := y_bin ho hx hy fun w => by
  simp [binOp, Op.intCmp]
theorem y_geqw {t ty : TypeId} {x y : Operand} {p q : UInt32} (ho : o.op = .binOp .geq t x y ty) (hx : ev s x = some (vw p)) (hy : ev s y = some (vw q)) : Yl P s M o (.bool (decide (q.toNat ≤ p.toNat))) := y_bin ho hx hy fun w => by
  simp [binOp, Op.intCmp]
theorem y_eqlw {t ty : TypeId} {x y : Operand} {p q : UInt32} (ho : o.op = .binOp .eql t x y ty) (hx : ev s x = some (vw p)) (hy : ev s y = some (vw q)) : Yl P s M o (.bool (decide (p = q))) := y_bin ho hx hy fun w => by
  have e : ((p.toNat : Int) == (q.toNat : Int)) = decide (p = q) := by
    rw [Bool.eq_iff_iff]; simp [← UInt32.toNat_inj]; omega
  simp only [binOp, Op.intCmp, e]; rfl
theorem y_neqw {t ty : TypeId} {x y : Operand} {p q : UInt32} (ho : o.op = .binOp .neq t x y ty) (hx : ev s x = some (vw p)) (hy : ev s y = some (vw q)) : Yl P s M o (.bool (decide (p ≠ q))) := y_bin ho hx hy fun w => by
  have e : ((p.toNat : Int) != (q.toNat : Int)) = decide (p ≠ q) := by
    rw [Bool.eq_iff_iff]; simp [← UInt32.toNat_inj]; omega
  simp only [binOp, Op.intCmp, e]; rfl
theorem y_quow {t ty : TypeId} {x y : Operand} {p q : UInt32} (ho : o.op = .binOp .quo t x y ty) (hx : ev s x = some (vw p)) (hy : ev s y = some (vw q)) (h : q ≠ 0) : Yl P s M o (vw (p / q)) := y_bin ho hx hy fun w => by
  have h0 : q.toNat ≠ 0 := fun e => h (UInt32.toNat_inj.1 (by simpa using e))
  have e : IntKind.u32.wrap ((p.toNat : Int).tdiv (q.toNat : Int)) = ((p / q).toNat : Int) := by
    rw [Int.tdiv_eq_ediv_of_nonneg (by omega), ← Int.natCast_ediv, wrap_u32 (Nat.lt_of_le_of_lt (Nat.div_le_self _ _) (UInt32.toNat_lt p)), UInt32.toNat_div]
  have hq : ¬ ((q.toNat : Int) = 0) := by omega
  simp only [binOp, Op.intDiv, if_neg hq]
  exact congrArg (fun z => Result.ok (Value.int .u32 z) w) e
theorem y_remw {t ty : TypeId} {x y : Operand} {p q : UInt32} (ho : o.op = .binOp .rem t x y ty) (hx : ev s x = some (vw p)) (hy : ev s y = some (vw q)) (h : q ≠ 0) : Yl P s M o (vw (p % q)) := y_bin ho hx hy fun w => by
  have h0 : q.toNat ≠ 0 := fun e => h (UInt32.toNat_inj.1 (by simpa using e))
  have e : (p.toNat : Int).tmod (q.toNat : Int) = ((p % q).toNat : Int) := by
    rw [Int.tmod_eq_emod_of_nonneg (by omega), ← Int.natCast_emod, UInt32.toNat_mod]
  have hq : ¬ (q.toNat = 0) := h0
  simp [binOp, Op.intDiv, e, hq]
theorem y_shlw {t ty : TypeId} {x y : Operand} {p : UInt32} {k : IntKind} {q : Int} (m : Nat) (ho : o.op = .binOp .shl t x y ty) (hx : ev s x = some (vw p)) (hy : ev s y = some (.int k q)) (hq : q = (m : Int)) (hm : m < 32) : Yl P s M o (vw (p <<< UInt32.ofNat m)) := y_bin ho hx hy fun w => by
  subst hq
  have h0 : ¬ ((m : Int) < 0) := by omega
  have h1 : min ((m : Int).toNat) (IntKind.u32.bits) = m := by simp [IntKind.bits]; omega
  have e : IntKind.u32.wrap ((p.toNat : Int) * 2 ^ m) = ((p <<< UInt32.ofNat m).toNat : Int) := by
    have e0 : (p <<< UInt32.ofNat m).toNat = p.toNat <<< m % 2 ^ 32 := by
      have h2 : m % 2 ^ 32 = m := Nat.mod_eq_of_lt (by omega)
      have h3 : m % 32 = m := Nat.mod_eq_of_lt hm
      rw [UInt32.toNat_shiftLeft, UInt32.toNat_ofNat', h2, h3]
    rw [e0, show (p.toNat : Int) * 2 ^ m = ((p.toNat <<< m : Nat) : Int) from by rw [Nat.shiftLeft_eq, Int.natCast_mul, Int.natCast_pow]; rfl, wrapm_u32]
  simp only [binOp, Op.shift, h0, if_false]
  show Result.ok (Value.int .u32 (IntKind.u32.wrap ((p.toNat : Int) * 2 ^ (min ((m : Int).toNat) (IntKind.u32.bits))))) w = _
  rw [h1, e]
theorem y_shrw {t ty : TypeId} {x y : Operand} {p : UInt32} {k : IntKind} {q : Int} (m : Nat) (ho : o.op = .binOp .shr t x y ty) (hx : ev s x = some (vw p)) (hy : ev s y = some (.int k q)) (hq : q = (m : Int)) (hm : m < 32) : Yl P s M o (vw (p >>> UInt32.ofNat m)) := y_bin ho hx hy fun w => by
  subst hq
  have h0 : ¬ ((m : Int) < 0) := by omega
  have h1 : min ((m : Int).toNat) (IntKind.u32.bits) = m := by simp [IntKind.bits]; omega
  have e : ((p.toNat : Int).fdiv (2 ^ m)) = ((p >>> UInt32.ofNat m).toNat : Int) := by
    have e0 : (p >>> UInt32.ofNat m).toNat = p.toNat / 2 ^ m := by
      have h2 : m % 2 ^ 32 = m := Nat.mod_eq_of_lt (by omega)
      have h3 : m % 32 = m := Nat.mod_eq_of_lt hm
      rw [UInt32.toNat_shiftRight, UInt32.toNat_ofNat', h2, h3, Nat.shiftRight_eq_div_pow]
    rw [e0, Int.fdiv_eq_ediv_of_nonneg _ (by exact Int.pow_nonneg (by omega)), Int.natCast_ediv, Int.natCast_pow]
    rfl
  simp only [binOp, Op.shift, h0, if_false]
  show Result.ok (Value.int .u32 ((p.toNat : Int).fdiv (2 ^ (min ((m : Int).toNat) (IntKind.u32.bits))))) w = _
  rw [h1, e]
theorem y_cmplw {t : TypeId} {x : Operand} {p : UInt32} (ho : o.op = .unOp .xor t x) (hx : ev s x = some (vw p)) : Yl P s M o (vw (~~~p)) := y_un ho hx fun w => by
  have e : IntKind.u32.wrap ((BitVec.ofInt 32 (IntKind.u32.max) ^^^ BitVec.ofInt 32 (p.toNat : Int)).toNat : Int) = ((~~~p).toNat : Int) := by
    rw [bv_u32, show BitVec.ofInt 32 (IntKind.u32.max) = BitVec.allOnes 32 from by decide, BitVec.allOnes_xor]
    exact back_u32 (~~~p)
  exact congrArg (fun z => Result.ok (Value.int .u32 z) w) e
theorem wrapm_u64 (m : Nat) : IntKind.u64.wrap (m : Int) = ((m % 2 ^ 64 : Nat) : Int) := by
  simp [IntKind.wrap, IntKind.bits, IntKind.signed]
theorem wrap_u64 {m : Nat} (h : m < 2 ^ 64) : IntKind.u64.wrap (m : Int) = (m : Int) := by
  rw [wrapm_u64, Nat.mod_eq_of_lt h]
theorem bv_u64 (p : UInt64) : BitVec.ofInt 64 (p.toNat : Int) = p.toBitVec := by
  rw [BitVec.ofInt_natCast]
  exact BitVec.eq_of_toNat_eq (by simp)
theorem back_u64 (p : UInt64) : IntKind.u64.wrap (p.toBitVec.toNat : Int) = (p.toNat : Int) := wrap_u64 p.toBitVec.isLt
theorem y_andq {t ty : TypeId} {x y : Operand} {p q : UInt64} (ho : o.op = .binOp .and t x y ty) (hx : ev s x = some (vq p)) (hy : ev s y = some (vq q)) : Yl P s M o (vq (p &&& q)) := y_bin ho hx hy fun w => by
  have e : IntKind.u64.wrap ((BitVec.ofInt 64 (p.toNat : Int) &&& BitVec.ofInt 64 (q.toNat : Int)).toNat : Int) = ((p &&& q).toNat : Int) := by rw [bv_u64, bv_u64]; exact back_u64 (p &&& q)
  exact congrArg (fun z => Result.ok (Value.int .u64 z) w) e
theorem y_orq {t ty : TypeId} {x y : Operand} {p q : UInt64} (ho : o.op = .binOp .or t x y ty) (hx : ev s x = some (vq p)) (hy : ev s y = some (vq q)) : Yl P s M o (vq (p ||| q)) := y_bin ho hx hy fun w => by
  have e : IntKind.u64.wrap ((BitVec.ofInt 64 (p.toNat : Int) ||| BitVec.ofInt 64 (q.toNat : Int)).toNat : Int) = ((p ||| q).toNat : Int) := by rw [bv_u64, bv_u64]; exact back_u64 (p ||| q)
  exact congrArg (fun z => Result.ok (Value.int .u64 z) w) e
theorem y_xorq {t ty : TypeId} {x y : Operand} {p q : UInt64} (ho : o.op = .binOp .xor t x y ty) (hx : ev s x = some (vq p)) (hy : ev s y = some (vq q)) : Yl P s M o (vq (p ^^^ q)) := y_bin ho hx hy fun w => by
  have e : IntKind.u64.wrap ((BitVec.ofInt 64 (p.toNat : Int) ^^^ BitVec.ofInt 64 (q.toNat : Int)).toNat : Int) = ((p ^^^ q).toNat : Int) := by rw [bv_u64, bv_u64]; exact back_u64 (p ^^^ q)
  exact congrArg (fun z => Result.ok (Value.int .u64 z) w) e
theorem y_addq {t ty : TypeId} {x y : Operand} {p q : UInt64} (ho : o.op = .binOp .add t x y ty) (hx : ev s x = some (vq p)) (hy : ev s y = some (vq q)) : Yl P s M o (vq (p + q)) := y_bin ho hx hy fun w => by
  have e : IntKind.u64.wrap ((p.toNat : Int) + (q.toNat : Int)) = ((p + q).toNat : Int) := by rw [← Int.natCast_add, wrapm_u64, UInt64.toNat_add]
  exact congrArg (fun z => Result.ok (Value.int .u64 z) w) e
theorem y_mulq {t ty : TypeId} {x y : Operand} {p q : UInt64} (ho : o.op = .binOp .mul t x y ty) (hx : ev s x = some (vq p)) (hy : ev s y = some (vq q)) : Yl P s M o (vq (p * q)) := y_bin ho hx hy fun w => by
  have e : IntKind.u64.wrap ((p.toNat : Int) * (q.toNat : Int)) = ((p * q).toNat : Int) := by rw [← Int.natCast_mul, wrapm_u64, UInt64.toNat_mul]
  exact congrArg (fun z => Result.ok (Value.int .u64 z) w) e
theorem y_subq {t ty : TypeId} {x y : Operand} {p q : UInt64} (ho : o.op = .binOp .sub t x y ty) (hx : ev s x = some (vq p)) (hy : ev s y = some (vq q)) : Yl P s M o (vq (p - q)) := y_bin ho hx hy fun w => by
  have e : IntKind.u64.wrap ((p.toNat : Int) - (q.toNat : Int)) = ((p - q).toNat : Int) := by
    have hq : q.toNat < 2 ^ 64 := q.toBitVec.isLt
    have hp : p.toNat < 2 ^ 64 := p.toBitVec.isLt
    rw [UInt64.toNat_sub]
    simp only [IntKind.wrap, IntKind.bits, IntKind.signed, Bool.false_and, Bool.false_eq_true, if_false]
    omega
  exact congrArg (fun z => Result.ok (Value.int .u64 z) w) e
theorem y_lssq {t ty : TypeId} {x y : Operand} {p q : UInt64} (ho : o.op = .binOp .lss t x y ty) (hx : ev s x = some (vq p)) (hy : ev s y = some (vq q)) : Yl P s M o (.bool (decide (p.toNat < q.toNat))) := y_bin ho hx hy fun w => by
  simp [binOp, Op.intCmp]
theorem y_leqq {t ty : TypeId} {x y : Operand} {p q : UInt64} (ho : o.op = .binOp .leq t x y ty) (hx : ev s x = some (vq p)) (hy : ev s y = some (vq q)) : Yl P s M o (.bool (decide (p.toNat ≤ q.toNat))) := y_bin ho hx hy fun w => by
  simp [binOp, Op.intCmp]
theorem y_gtrq {t ty : TypeId} {x y : Operand} {p q : UInt64} (ho : o.op = .binOp .gtr t x y ty) (hx : ev s x = some (vq p)) (hy : ev s y = some (vq q)) : Yl P s M o (.bool (decide (q.toNat < p.toNat))) := y_bin ho hx hy fun w => by
  simp [binOp, Op.intCmp]
theorem y_geqq {t ty : TypeId} {x y : Operand} {p q : UInt64} (ho : o.op = .binOp .geq t x y ty) (hx : ev s x = some (vq p)) (hy : ev s y = some (vq q)) : Yl P s M o (.bool (decide (q.toNat ≤ p.toNat))) := y_bin ho hx hy fun w => by
  simp [binOp, Op.intCmp]
theorem y_eqlq {t ty : TypeId} {x y : Operand} {p q : UInt64} (ho : o.op = .binOp .eql t x y ty) (hx : ev s x = some (vq p)) (hy : ev s y = some (vq q)) : Yl P s M o (.bool (decide (p = q))) := y_bin ho hx hy fun w => by
  have e : ((p.toNat : Int) == (q.toNat : Int)) = decide (p = q) := by
    rw [Bool.eq_iff_iff]; simp [← UInt64.toNat_inj]; omega
  simp only [binOp, Op.intCmp, e]; rfl
theorem y_neqq {t ty : TypeId} {x y : Operand} {p q : UInt64} (ho : o.op = .binOp .neq t x y ty) (hx : ev s x = some (vq p)) (hy : ev s y = some (vq q)) : Yl P s M o (.bool (decide (p ≠ q))) := y_bin ho hx hy fun w => by
  have e : ((p.toNat : Int) != (q.toNat : Int)) = decide (p ≠ q) := by
    rw [Bool.eq_iff_iff]; simp [← UInt64.toNat_inj]; omega
  simp only [binOp, Op.intCmp, e]; rfl
theorem y_quoq {t ty : TypeId} {x y : Operand} {p q : UInt64} (ho : o.op = .binOp .quo t x y ty) (hx : ev s x = some (vq p)) (hy : ev s y = some (vq q)) (h : q ≠ 0) : Yl P s M o (vq (p / q)) := y_bin ho hx hy fun w => by
  have h0 : q.toNat ≠ 0 := fun e => h (UInt64.toNat_inj.1 (by simpa using e))
  have e : IntKind.u64.wrap ((p.toNat : Int).tdiv (q.toNat : Int)) = ((p / q).toNat : Int) := by
    rw [Int.tdiv_eq_ediv_of_nonneg (by omega), ← Int.natCast_ediv, wrap_u64 (Nat.lt_of_le_of_lt (Nat.div_le_self _ _) (UInt64.toNat_lt p)), UInt64.toNat_div]
  have hq : ¬ ((q.toNat : Int) = 0) := by omega
  simp only [binOp, Op.intDiv, if_neg hq]
  exact congrArg (fun z => Result.ok (Value.int .u64 z) w) e
theorem y_remq {t ty : TypeId} {x y : Operand} {p q : UInt64} (ho : o.op = .binOp .rem t x y ty) (hx : ev s x = some (vq p)) (hy : ev s y = some (vq q)) (h : q ≠ 0) : Yl P s M o (vq (p % q)) := y_bin ho hx hy fun w => by
  have h0 : q.toNat ≠ 0 := fun e => h (UInt64.toNat_inj.1 (by simpa using e))
  have e : (p.toNat : Int).tmod (q.toNat : Int) = ((p % q).toNat : Int) := by
    rw [Int.tmod_eq_emod_of_nonneg (by omega), ← Int.natCast_emod, UInt64.toNat_mod]
  have hq : ¬ (q.toNat = 0) := h0
  simp [binOp, Op.intDiv, e, hq]
theorem y_shlq {t ty : TypeId} {x y : Operand} {p : UInt64} {k : IntKind} {q : Int} (m : Nat) (ho : o.op = .binOp .shl t x y ty) (hx : ev s x = some (vq p)) (hy : ev s y = some (.int k q)) (hq : q = (m : Int)) (hm : m < 64) : Yl P s M o (vq (p <<< UInt64.ofNat m)) := y_bin ho hx hy fun w => by
  subst hq
  have h0 : ¬ ((m : Int) < 0) := by omega
  have h1 : min ((m : Int).toNat) (IntKind.u64.bits) = m := by simp [IntKind.bits]; omega
  have e : IntKind.u64.wrap ((p.toNat : Int) * 2 ^ m) = ((p <<< UInt64.ofNat m).toNat : Int) := by
    have e0 : (p <<< UInt64.ofNat m).toNat = p.toNat <<< m % 2 ^ 64 := by
      have h2 : m % 2 ^ 64 = m := Nat.mod_eq_of_lt (by omega)
      have h3 : m % 64 = m := Nat.mod_eq_of_lt hm
      rw [UInt64.toNat_shiftLeft, UInt64.toNat_ofNat', h2, h3]
    rw [e0, show (p.toNat : Int) * 2 ^ m = ((p.toNat <<< m : Nat) : Int) from by rw [Nat.shiftLeft_eq, Int.natCast_mul, Int.natCast_pow]; rfl, wrapm_u64]
  simp only [binOp, Op.shift, h0, if_false]
  show Result.ok (Value.int .u64 (IntKind.u64.wrap ((p.toNat : Int) * 2 ^ (min ((m : Int).toNat) (IntKind.u64.bits))))) w = _
  rw [h1, e]
theorem y_shrq {t ty : TypeId} {x y : Operand} {p : UInt64} {k : IntKind} {q : Int} (m : Nat) (ho : o.op = .binOp .shr t x y ty) (hx : ev s x = some (vq p)) (hy : ev s y = some (.int k q)) (hq : q = (m : Int)) (hm : m < 64) : Yl P s M o (vq (p >>> UInt64.ofNat m)) := y_bin ho hx hy fun w => by
  subst hq
  have h0 : ¬ ((m : Int) < 0) := by omega
  have h1 : min ((m : Int).toNat) (IntKind.u64.bits) = m := by simp [IntKind.bits]; omega
  have e : ((p.toNat : Int).fdiv (2 ^ m)) = ((p >>> UInt64.ofNat m).toNat : Int) := by
    have e0 : (p >>> UInt64.ofNat m).toNat = p.toNat / 2 ^ m := by
      have h2 : m % 2 ^ 64 = m := Nat.mod_eq_of_lt (by omega)
      have h3 : m % 64 = m := Nat.mod_eq_of_lt hm
      rw [UInt64.toNat_shiftRight, UInt64.toNat_ofNat', h2, h3, Nat.shiftRight_eq_div_pow]
    rw [e0, Int.fdiv_eq_ediv_of_nonneg _ (by exact Int.pow_nonneg (by omega)), Int.natCast_ediv, Int.natCast_pow]
    rfl
  simp only [binOp, Op.shift, h0, if_false]
  show Result.ok (Value.int .u64 ((p.toNat : Int).fdiv (2 ^ (min ((m : Int).toNat) (IntKind.u64.bits))))) w = _
  rw [h1, e]
theorem y_cmplq {t : TypeId} {x : Operand} {p : UInt64} (ho : o.op = .unOp .xor t x) (hx : ev s x = some (vq p)) : Yl P s M o (vq (~~~p)) := y_un ho hx fun w => by
  have e : IntKind.u64.wrap ((BitVec.ofInt 64 (IntKind.u64.max) ^^^ BitVec.ofInt 64 (p.toNat : Int)).toNat : Int) = ((~~~p).toNat : Int) := by
    rw [bv_u64, show BitVec.ofInt 64 (IntKind.u64.max) = BitVec.allOnes 64 from by decide, BitVec.allOnes_xor]
    exact back_u64 (~~~p)
  exact congrArg (fun z => Result.ok (Value.int .u64 z) w) e
end
end Go.Proofs.YtcdidapkpfnphaaDoor
