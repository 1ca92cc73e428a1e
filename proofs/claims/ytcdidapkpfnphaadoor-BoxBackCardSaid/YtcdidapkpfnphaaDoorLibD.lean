/- Words of my own for operations on memory: slices that are read, arrays, loads, stores, new blocks. -/
import Derived.Test.YtcdidapkpfnphaaDoorLibC
import Derived.Maps.AppendAt
import Derived.Deep.MidRow
namespace Go.Proofs.YtcdidapkpfnphaaDoor
open Go.RowKit

/-! ### Types of the program, in short -/
def TArr (P : Program) (t n e m : Nat) : Prop := P.underlying t = some (.array n e) ∧ (P.info? t).map (·.size) = some m
def TOne (P : Program) (t : Nat) : Prop := (match P.underlying t with | some (.struct _) | some (.array _ _) | none => false | _ => true) = true ∧ (P.info? t).map (·.size) = some 1
def TSlice (P : Program) (t e : Nat) : Prop := P.underlying t = some (.slice e) ∧ (P.info? e).map (·.size) = some 1
def TZero (P : Program) (t : Nat) (cs : List Value) : Prop := ∃ z, (P.info? t).map (·.zero) = some (some z) ∧ z.cells.toList = cs
theorem TOne.run_isAgg {P : Program} {t : Nat} (h : TOne P t) (w : World) : (isAgg t).run P w = .ok false w := by
  obtain ⟨h, _⟩ := h
  cases hd : P.underlying t with
  | none => rw [hd] at h; cases h
  | some d =>
    rw [hd] at h
    unfold isAgg
    rw [Sem.run_bind, run_underlying hd w]
    cases d <;> first | rfl | cases h
theorem run_sizeOf_of {P : Program} {t m : Nat} (h : (P.info? t).map (·.size) = some m) (w : World) : (sizeOf t).run P w = .ok m w := by
  cases hq : P.info? t with
  | none => simp [hq] at h
  | some i => simp [hq] at h; simp [sizeOf, typeInfo, hq, h]
theorem addr_add (g o k : Nat) : (⟨g, o, none⟩ : Addr).add k = ⟨g, o + k, none⟩ := by unfold Addr.add; split <;> simp_all
theorem add_add (a : Addr) (i j : Nat) : (a.add i).add j = a.add (i + j) := by
  unfold Addr.add
  by_cases hi : i = 0 <;> by_cases hj : j = 0 <;> simp [hi, hj, Nat.add_assoc]

/-! ### A slice that is read -/
def spa (v : Value) (j : Nat) : Addr := (match v with | .slice (some a) _ _ => a | _ => default).add j
def sp (v : Value) (j : Nat) : Value := .pointer (some (spa v j))
def Rd (w : World) (v : Value) (xs : List Value) : Prop := ∃ A c, v = .slice A xs.length c ∧ xs.length ≤ c ∧ ∀ j u, xs[j]? = some u → ∃ ad, A = some ad ∧ w.cell? (ad.add j) = some u
theorem Rd.below {w w' : World} {v : Value} {xs : List Value} (h : Rd w v xs) (hb : Below w.heap.size w w') : Rd w' v xs := by
  obtain ⟨A, c, rfl, hc, hx⟩ := h
  refine ⟨A, c, rfl, hc, fun j u hu => ?_⟩
  obtain ⟨ad, rfl, h1⟩ := hx j u hu
  exact ⟨ad, rfl, (hb.cell (World.block_lt_of_cell? w _ h1)).trans h1⟩
theorem Rd.cell {w : World} {v : Value} {xs : List Value} (h : Rd w v xs) {j : Nat} {u : Value} (hu : xs[j]? = some u) : w.cell? (spa v j) = some u := by
  obtain ⟨A, c, rfl, _, hx⟩ := h
  obtain ⟨ad, rfl, h1⟩ := hx j u hu
  exact h1
def slc (v : Value) (lo hi : Nat) : Value := match v with
  | .slice a _ c => .slice (if c = lo then a else a.map (·.add lo)) (hi - lo) (c - lo)
  | v => v
def slc3 (v : Value) (lo hi mx : Nat) : Value := match v with
  | .slice a _ _ => .slice (if mx = lo then a else a.map (·.add lo)) (hi - lo) (mx - lo)
  | v => v
theorem Rd.slc {w : World} {v : Value} {xs : List Value} (h : Rd w v xs) {lo hi : Nat} (h1 : lo ≤ hi) (h2 : hi ≤ xs.length) : Rd w (slc v lo hi) ((xs.drop lo).take (hi - lo)) := by
  obtain ⟨A, c, rfl, hc, hx⟩ := h
  have hl : ((xs.drop lo).take (hi - lo)).length = hi - lo := by simp; omega
  refine ⟨if c = lo then A else A.map (·.add lo), c - lo, by simp only [Proofs.YtcdidapkpfnphaaDoor.slc, hl], by omega, fun j u hu => ?_⟩
  have hj : j < hi - lo := by have := (List.getElem?_eq_some_iff.1 hu).1; omega
  rw [List.getElem?_take, if_pos hj, List.getElem?_drop] at hu
  obtain ⟨ad, rfl, hcell⟩ := hx _ u hu
  rw [if_neg (by omega)]
  exact ⟨ad.add lo, rfl, by rw [add_add]; exact hcell⟩
theorem Rd.slc3 {w : World} {v : Value} {xs : List Value} (h : Rd w v xs) {lo hi mx : Nat} (h1 : lo ≤ hi) (h2 : hi ≤ xs.length) (h3 : hi ≤ mx) : Rd w (slc3 v lo hi mx) ((xs.drop lo).take (hi - lo)) := by
  obtain ⟨A, c, rfl, hc, hx⟩ := h
  have hl : ((xs.drop lo).take (hi - lo)).length = hi - lo := by simp; omega
  refine ⟨if mx = lo then A else A.map (·.add lo), mx - lo, by simp only [Proofs.YtcdidapkpfnphaaDoor.slc3, hl], by omega, fun j u hu => ?_⟩
  have hj : j < hi - lo := by have := (List.getElem?_eq_some_iff.1 hu).1; omega
  rw [List.getElem?_take, if_pos hj, List.getElem?_drop] at hu
  obtain ⟨ad, rfl, hcell⟩ := hx _ u hu
  rw [if_neg (by omega)]
  exact ⟨ad.add lo, rfl, by rw [add_add]; exact hcell⟩
theorem Rd.own {w : World} {B : Nat} {t : TypeId} {v : Value} {xs : List Value} (h : w.ownsRow B t 1 v xs.length xs) : Rd w v xs := by
  have h' := h
  rcases h.2 with ⟨rfl, h0⟩ | ⟨g, cap, cur, rfl, _, _, hc, _⟩
  · refine ⟨none, 0, by rw [h0], by omega, fun j u hu => ?_⟩
    have := (List.getElem?_eq_some_iff.1 hu).1
    omega
  · exact ⟨_, cap, rfl, hc, fun j u hu => ⟨_, rfl, World.ownsRow.cells h' (g := g) rfl j u hu⟩⟩
/-- A slice over a block of its own. -/
theorem Rd.blk {w : World} {B g o n c : Nat} {t : TypeId} {cs xs : List Value} (h : (Own.blk g t cs).ok B w) (hx : (cs.drop o).take n = xs) (hn : xs.length = n) (hc : n ≤ c) : Rd w (.slice (some ⟨g, o, none⟩) n c) xs := by
  subst hx
  refine ⟨_, c, by rw [hn], by omega, fun j u hu => ⟨_, rfl, ?_⟩⟩
  have hj : j < n := by have := (List.getElem?_eq_some_iff.1 hu).1; omega
  rw [List.getElem?_take, if_pos hj, List.getElem?_drop] at hu
  rw [addr_add, cell_of_row w g (o + j) cs.toArray t (0, 0) h.2]
  simpa using hu
/-- Read in every world that meets M. -/
def RdM (M : As) (v : Value) (xs : List Value) : Prop := ∀ w, M w → Rd w v xs
theorem rdF {w0 : World} {L : List Own} {v : Value} {xs : List Value} (h : Rd w0 v xs) : RdM (Mm w0 L) v xs := fun _ hm => h.below hm.low
theorem rdR {w0 : World} {L : List Own} {v : Value} {t : TypeId} {xs : List Value} (i : Nat) (h : L[i]? = some (.row t v xs)) : RdM (Mm w0 L) v xs := fun _ hm => Rd.own (hm.at_ h)
theorem rdB {w0 : World} {L : List Own} {g o n c : Nat} {t : TypeId} {cs xs : List Value} (i : Nat) (h : L[i]? = some (.blk g t cs)) (hx : (cs.drop o).take n = xs) (hn : xs.length = n) (hc : n ≤ c) : RdM (Mm w0 L) (.slice (some ⟨g, o, none⟩) n c) xs :=
  fun _ hm => Rd.blk (hm.at_ h) hx hn hc
theorem rdO {w0 : World} {L : List Own} {v : Value} {g : Nat} {xs : List Value} (i : Nat) (h : L[i]? = some (.ro g v xs)) : RdM (Mm w0 L) v xs := fun _ hm => by
  obtain ⟨_, _, A, c, hv, hc, hx⟩ := hm.at_ h
  exact ⟨A, c, hv, hc, fun j u hu => by obtain ⟨ad, e, _, hcell⟩ := hx j u hu; exact ⟨ad, e, hcell⟩⟩
theorem RdM.slc {M : As} {v : Value} {xs : List Value} (h : RdM M v xs) {lo hi : Nat} (h1 : lo ≤ hi) (h2 : hi ≤ xs.length) : RdM M (slc v lo hi) ((xs.drop lo).take (hi - lo)) := fun w hm => (h w hm).slc h1 h2
theorem RdM.slc3 {M : As} {v : Value} {xs : List Value} (h : RdM M v xs) {lo hi mx : Nat} (h1 : lo ≤ hi) (h2 : hi ≤ xs.length) (h3 : hi ≤ mx) : RdM M (slc3 v lo hi mx) ((xs.drop lo).take (hi - lo)) := fun w hm => (h w hm).slc3 h1 h2 h3

section
variable {P : Program} {s : Sl} {M : As} {o : Oper} {w0 : World} {L : List Own}

/-! ### What yields -/
theorem y_len {v : Value} {xs : List Value} {x : Operand} {t e : TypeId} {ats : Array TypeId} (ho : o.op = .call { callee := .builtin .len, args := #[x], argTypes := ats }) (hats : ats[0]? = some t) (ht : P.underlying t = some (.slice e)) (hx : ev s x = some v) (hr : RdM M v xs) : Yl P s M o (vi xs.length) := fun a ha w hm => by
  obtain ⟨A, c, rfl, _⟩ := hr w hm
  have h1 := ha x _ hx
  simp [execOp, ho, resolve, invoke, builtin, Builtin.len_, h1, hats, run_underlying ht, goInt]
theorem y_lens {b : ByteArray} {x : Operand} {t : TypeId} {ats : Array TypeId} (ho : o.op = .call { callee := .builtin .len, args := #[x], argTypes := ats }) (hats : ats[0]? = some t) (ht : P.underlying t = some .string) (hx : ev s x = some (.string b)) : Yl P s M o (vi b.size) := fun a ha w _ => by
  have h1 := ha x _ hx
  simp [execOp, ho, resolve, invoke, builtin, Builtin.len_, h1, hats, run_underlying ht, goInt]
theorem y_ixs {v : Value} {xs : List Value} {x ix : Operand} {t e k : Nat} (ho : o.op = .indexAddr t x ix) (ht : TSlice P t e) (hx : ev s x = some v) (hr : RdM M v xs) {kd : IntKind} (hi : ev s ix = some (.int kd ((k : Nat) : Int))) (hk : k < xs.length) : Yl P s M o (sp v k) := fun a ha w hm => by
  obtain ⟨A, c, rfl, _, hc⟩ := hr w hm
  obtain ⟨ad, rfl, _⟩ := hc k _ (List.getElem?_eq_getElem hk)
  have h1 := ha x _ hx
  have h2 := ha ix _ hi
  simp [execOp, ho, Instr.indexAt, asIntOf, h1, h2, run_underlying ht.1, hk, run_sizeOf_of ht.2, sp, spa]
theorem y_ixa {x ix : Operand} {t e n m z g q k : Nat} (ho : o.op = .indexAddr t x ix) (ht : TArr P t n e m) (hz : (P.info? e).map (·.size) = some z) (hx : ev s x = some (.pointer (some ⟨g, q, none⟩))) {kd : IntKind} (hi : ev s ix = some (.int kd ((k : Nat) : Int))) (hk : k < n) : Yl P s M o (.pointer (some ⟨g, q + k * z, none⟩)) := fun a ha w hm => by
  have h1 := ha x _ hx
  have h2 := ha ix _ hi
  simp [execOp, ho, Instr.indexAt, asIntOf, h1, h2, run_underlying ht.1, hk, run_sizeOf_of hz, Instr.sureAddr, addr_add]
/-- An address in a slice over a block of the call's own. -/
theorem y_ixb {x ix : Operand} {t e g q n c k : Nat} (ho : o.op = .indexAddr t x ix) (ht : TSlice P t e) (hx : ev s x = some (.slice (some ⟨g, q, none⟩) n c)) {kd : IntKind} (hi : ev s ix = some (.int kd ((k : Nat) : Int))) (hk : k < n) : Yl P s M o (.pointer (some ⟨g, q + k, none⟩)) := fun a ha w hm => by
  have h1 := ha x _ hx
  have h2 := ha ix _ hi
  simp [execOp, ho, Instr.indexAt, asIntOf, h1, h2, run_underlying ht.1, hk, run_sizeOf_of ht.2, addr_add]
theorem y_ldr {v u : Value} {xs : List Value} {x : Operand} {t k : Nat} (ho : o.op = .load t x) (ht : TOne P t) (hx : ev s x = some (sp v k)) (hr : RdM M v xs) (hu : xs[k]? = some u) : Yl P s M o u := fun a ha w hm => by
  have h1 := ha x _ hx
  have h2 := (hr w hm).cell hu
  simp [execOp, ho, h1, sp, Instr.loadAt, Instr.sureAddr, loadVar, ht.run_isAgg, h2]
theorem y_ld {u : Value} {x : Operand} {t g q e : Nat} {cs : List Value} (i : Nat) (ho : o.op = .load t x) (ht : TOne P t) (hx : ev s x = some (.pointer (some ⟨g, q, none⟩))) (hi : L[i]? = some (.blk g e cs)) (hu : cs[q]? = some u) : Yl P s (Mm w0 L) o u := fun a ha w hm => by
  have h1 := ha x _ hx
  have h2 : w.cell? ⟨g, q, none⟩ = some u := by
    rw [cell_of_row w g q cs.toArray e (0, 0) (hm.at_ hi).2]
    simpa using hu
  simp [execOp, ho, h1, Instr.loadAt, Instr.sureAddr, loadVar, ht.run_isAgg, h2]
theorem y_lda {x : Operand} {t g q e n e' m : Nat} {cs xs : List Value} (i : Nat) (ho : o.op = .load t x) (ht : TArr P t n e' m) (hx : ev s x = some (.pointer (some ⟨g, q, none⟩))) (hi : L[i]? = some (.blk g e cs)) (hc : (cs.drop q).take m = xs) (hm' : q + m ≤ cs.length) : Yl P s (Mm w0 L) o (.agg xs.toArray) := fun a ha w hm => by
  subst hc
  have h1 := ha x _ hx
  have hl : ((cs.drop q).take m).length = m := by simp; omega
  have h2 := run_loadVar_mid (P := P) w g q t ((cs.drop q).take m) (.array n e') (fun j v hv => by
    have hj : j < m := by have := (List.getElem?_eq_some_iff.1 hv).1; omega
    rw [List.getElem?_take, if_pos hj, List.getElem?_drop] at hv
    rw [cell_of_row w g (q + j) cs.toArray e (0, 0) (hm.at_ hi).2]
    simpa using hv) ht.1 rfl (by rw [ht.2, hl])
  simp [execOp, ho, h1, Instr.loadAt, Instr.sureAddr, h2]
/-- An element of an array that is a value: of one cell. -/
theorem y_ix {x ix : Operand} {t e n m k : Nat} {cs : List Value} {u : Value} (ho : o.op = .index t x ix) (ht : TArr P t n e m) (he : TOne P e) (hx : ev s x = some (.agg cs.toArray)) {kd : IntKind} (hi : ev s ix = some (.int kd ((k : Nat) : Int))) (hk : k < n) (hu : cs[k]? = some u) : Yl P s M o u := fun a ha w hm => by
  have h1 := ha x _ hx
  have h2 := ha ix _ hi
  simp [execOp, ho, Instr.index, asIntOf, h1, h2, run_underlying ht.1, hk, run_sizeOf_of he.2, part, he.run_isAgg, hu]
/-- .. that is an array. -/
theorem y_ixag {x ix : Operand} {t e n m k n' e' m' : Nat} {cs xs : List Value} (ho : o.op = .index t x ix) (ht : TArr P t n e m) (he : TArr P e n' e' m') (hx : ev s x = some (.agg cs.toArray)) {kd : IntKind} (hi : ev s ix = some (.int kd ((k : Nat) : Int))) (hk : k < n) (hu : (cs.drop (k * m')).take m' = xs) : Yl P s M o (.agg xs.toArray) := fun a ha w hm => by
  have h1 := ha x _ hx
  have h2 := ha ix _ hi
  have h3 : 0 ≤ (k : Int) ∧ (k : Int) < n := by omega
  have h4 : (isAgg e).run P w = .ok true w := by unfold isAgg; rw [Sem.run_bind, run_underlying he.1 w]; rfl
  have h5 : cs.toArray.extract (k * m') (k * m' + m') = xs.toArray := by
    subst hu
    simp [List.extract_eq_take_drop]
  simp only [execOp, ho, Instr.index, asIntOf, h1, h2, Sem.run_bind, Sem.run_pure, Result.andThen_ok, run_underlying ht.1, Int.toNat_natCast, run_sizeOf_of he.2, part, h4, if_true, if_pos h3, h5]
theorem y_ixstr {x ix : Operand} {t k : Nat} {b : ByteArray} {u : UInt8} (ho : o.op = .index t x ix) (ht : P.underlying t = some .string) (hx : ev s x = some (.string b)) {kd : IntKind} (hi : ev s ix = some (.int kd ((k : Nat) : Int))) (hu : b.data.toList[k]? = some u) : Yl P s M o (vb u) := fun a ha w hm => by
  have h1 := ha x _ hx
  have h2 := ha ix _ hi
  have hk : k < b.size := by have := (List.getElem?_eq_some_iff.1 hu).1; simpa using this
  have h3 : b[((k : Nat) : Int).toNat]? = some u := by
    rw [Int.toNat_natCast]
    rw [getElem?_pos b k hk]
    have := (List.getElem?_eq_some_iff.1 hu).2
    rw [← this]; rfl
  have h0 : (0 : Int) ≤ (k : Int) := by omega
  simp only [execOp, ho, Instr.index, asIntOf, h1, h2, Sem.run_bind, Sem.run_pure, Result.andThen_ok, run_underlying ht, if_pos h0, h3]
theorem y_extract {x : Operand} {k : Nat} {vs : Array Value} {v : Value} (ho : o.op = .extract x k) (hx : ev s x = some (.tuple vs)) (hv : vs[k]? = some v) : Yl P s M o v := fun a ha w _ => by
  have h1 := ha x _ hx
  simp [execOp, ho, Instr.extract, h1, hv]
theorem y_func {fn : Fn} {xs : Array Operand} {vs : Array Value} (ho : o.op = .makeFunc fn #[] xs) (hx : xs.toList.map (ev s) = vs.toList.map some) : Yl P s M o (.func fn #[] vs) := fun a ha w _ => by
  have h1 : xs.map a.eval = vs := by
    apply Array.toList_inj.1
    rw [Array.toList_map]
    generalize xs.toList = l at hx
    generalize vs.toList = l' at hx
    induction l generalizing l' with
    | nil => cases l' with
      | nil => rfl
      | cons => simp at hx
    | cons x l ih => cases l' with
      | nil => simp at hx
      | cons v l' =>
        simp only [List.map_cons, List.cons.injEq] at hx ⊢
        exact ⟨ha x v hx.1, ih _ hx.2⟩
  simp [execOp, ho, Instr.makeFunc, h1]
/-- A literal of an array. -/
theorem y_build {t : TypeId} {parts : Array (Nat × Operand)} {vs : Array (Nat × Value)} {v : Value} (ho : o.op = .build t parts) (h : ∀ w, (Instr.build t vs).run P w = .ok v w) (hx : parts.toList.map (fun p => (ev s p.2).map (p.1, ·)) = vs.toList.map some) : Yl P s M o v := fun a ha w _ => by
  have h1 : parts.map (fun p => (p.1, a.eval p.2)) = vs := by
    apply Array.toList_inj.1
    rw [Array.toList_map]
    generalize parts.toList = pl at hx
    generalize vs.toList = vl at hx
    induction pl generalizing vl with
    | nil => cases vl with
      | nil => rfl
      | cons => simp at hx
    | cons x pl ih => cases vl with
      | nil => simp at hx
      | cons v vl =>
        simp only [List.map_cons, List.cons.injEq] at hx ⊢
        obtain ⟨u, hu, rfl⟩ := Option.map_eq_some_iff.1 hx.1
        exact ⟨by rw [ha _ u hu], ih _ hx.2⟩
  simp only [execOp, ho, h1, Sem.run_bind, h w, Result.andThen_ok]
  rfl
/-- The same value in other words. -/
theorem y_as {v v' : Value} (h : Yl P s M o v) (e : v = v') : Yl P s M o v' := e ▸ h
/-! Slicing. -/
def opt (s : Sl) : Option Operand → Option (Option Nat)
  | none => some none
  | some x => match ev s x with
    | some (.int .i64 n) => if 0 ≤ n then some (some n.toNat) else none
    | _ => none
theorem y_slc {v : Value} {xs : List Value} {x y : Operand} {t e lo hi : Nat} (ho : o.op = .slice t x (some y) none none) (ht : TSlice P t e) (hx : ev s x = some v) (hr : RdM M v xs) (hy : ev s y = some (vi lo)) (hhi : hi = xs.length) (h1 : lo ≤ xs.length) : Yl P s M o (slc v lo hi) := fun a ha w hm => by
  subst hhi
  obtain ⟨A, c, rfl, hc, _⟩ := hr w hm
  have e1 := ha x _ hx
  have e2 := ha y _ hy
  have h3 : 0 ≤ (lo : Int) ∧ (lo : Int) ≤ xs.length := by omega
  simp only [execOp, ho, Instr.sliceAt, e1, e2, Option.map_some, Option.map_none, Sem.run_bind, run_underlying ht.1, Result.andThen_ok, Instr.slice, Instr.sliceBounds, Sem.run_pure, Instr.sliceBound, asIntOf, if_pos h3, run_sizeOf_of ht.2, Nat.mul_one, Int.toNat_natCast, slc]
theorem y_slc0 {v : Value} {xs : List Value} {x z : Operand} {t e hi : Nat} (ho : o.op = .slice t x none (some z) none) (ht : TSlice P t e) (hx : ev s x = some v) (hr : RdM M v xs) (hz : ev s z = some (vi hi)) (h1 : hi ≤ xs.length) : Yl P s M o (slc v 0 hi) := fun a ha w hm => by
  obtain ⟨A, c, rfl, hc, _⟩ := hr w hm
  have e1 := ha x _ hx
  have e2 := ha z _ hz
  have h3 : 0 ≤ (hi : Int) ∧ (hi : Int) ≤ c := by omega
  simp only [execOp, ho, Instr.sliceAt, e1, e2, Option.map_some, Option.map_none, Sem.run_bind, run_underlying ht.1, Result.andThen_ok, Instr.slice, Instr.sliceBounds, Sem.run_pure, Instr.sliceBound, asIntOf, if_pos h3, run_sizeOf_of ht.2, Nat.mul_one, Int.toNat_natCast, slc]
theorem y_slc2 {v : Value} {xs : List Value} {x y z : Operand} {t e lo hi : Nat} (ho : o.op = .slice t x (some y) (some z) none) (ht : TSlice P t e) (hx : ev s x = some v) (hr : RdM M v xs) (hy : ev s y = some (vi lo)) (hz : ev s z = some (vi hi)) (h1 : lo ≤ hi) (h2 : hi ≤ xs.length) : Yl P s M o (slc v lo hi) := fun a ha w hm => by
  obtain ⟨A, c, rfl, hc, _⟩ := hr w hm
  have e1 := ha x _ hx
  have e2 := ha y _ hy
  have e3 := ha z _ hz
  have h3 : 0 ≤ (hi : Int) ∧ (hi : Int) ≤ c := by omega
  have h4 : 0 ≤ (lo : Int) ∧ (lo : Int) ≤ hi := by omega
  simp only [execOp, ho, Instr.sliceAt, e1, e2, e3, Option.map_some, Option.map_none, Sem.run_bind, run_underlying ht.1, Result.andThen_ok, Instr.slice, Instr.sliceBounds, Sem.run_pure, Instr.sliceBound, asIntOf, if_pos h3, if_pos h4, run_sizeOf_of ht.2, Nat.mul_one, Int.toNat_natCast, slc]
theorem y_slc3 {v : Value} {xs : List Value} {x z m : Operand} {t e hi mx : Nat} (ho : o.op = .slice t x none (some z) (some m)) (ht : TSlice P t e) (hx : ev s x = some v) (hr : RdM M v xs) (hz : ev s z = some (vi hi)) (hm : ev s m = some (vi mx)) (h1 : hi ≤ mx) (h2 : mx ≤ xs.length) : Yl P s M o (slc3 v 0 hi mx) := fun a ha w hmw => by
  obtain ⟨A, c, rfl, hc, _⟩ := hr w hmw
  have e1 := ha x _ hx
  have e2 := ha z _ hz
  have e3 := ha m _ hm
  have h3 : 0 ≤ (mx : Int) ∧ (mx : Int) ≤ c := by omega
  have h4 : 0 ≤ (hi : Int) ∧ (hi : Int) ≤ mx := by omega
  simp only [execOp, ho, Instr.sliceAt, e1, e2, e3, Option.map_some, Option.map_none, Sem.run_bind, run_underlying ht.1, Result.andThen_ok, Instr.slice, Instr.sliceBounds, Sem.run_pure, Instr.sliceBound, asIntOf, if_pos h3, if_pos h4, run_sizeOf_of ht.2, Nat.mul_one, Int.toNat_natCast, slc3]
end
end Go.Proofs.YtcdidapkpfnphaaDoor
