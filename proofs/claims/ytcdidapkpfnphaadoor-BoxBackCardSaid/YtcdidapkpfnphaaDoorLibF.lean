/- Words of my own for rows of numbers: an array told by a function of the place, a slice told by a list. -/
import Derived.Test.YtcdidapkpfnphaaDoorLibE
namespace Go.Proofs.YtcdidapkpfnphaaDoor
open Go.RowKit

def ns {α : Type} (v : α → Value) (n : Nat) (f : Nat → α) : List Value := (List.range n).map fun i => v (f i)
def ls {α : Type} (v : α → Value) (l : List α) : List Value := l.map v
def upd {α : Type} (f : Nat → α) (k : Nat) (x : α) : Nat → α := fun i => if i = k then x else f i
section
variable {α : Type} {v : α → Value}
theorem ns_len (n : Nat) (f : Nat → α) : (ns v n f).length = n := by simp [ns]
theorem ls_len (l : List α) : (ls v l).length = l.length := by simp [ls]
theorem ns_nth {n : Nat} {f : Nat → α} {q : Nat} (h : q < n) : (ns v n f)[q]? = some (v (f q)) := by simp [ns, h]
theorem ls_nth {l : List α} {q : Nat} {x : α} (h : l[q]? = some x) : (ls v l)[q]? = some (v x) := by simp [ls, h]
theorem ls_ns (n : Nat) (f : Nat → α) : ns v n f = ls v ((List.range n).map f) := by simp [ls, ns]
theorem ns_ext {n : Nat} {f g : Nat → α} (h : ∀ i, i < n → f i = g i) : ns v n f = ns v n g := by
  unfold ns
  exact List.map_congr_left fun i hi => by rw [h i (List.mem_range.1 hi)]
theorem ns_set {n : Nat} {f : Nat → α} {q : Nat} {x : α} : (ns v n f).set q (v x) = ns v n (upd f q x) := by
  apply List.ext_getElem?
  intro j
  rw [List.getElem?_set]
  by_cases hj : j < n
  · by_cases e : q = j
    · subst e
      rw [if_pos rfl, if_pos (by rw [ns_len]; exact hj), ns_nth hj]
      exact congrArg (fun z => some (v z)) (if_pos rfl : (if q = q then x else f q) = x).symm
    · rw [if_neg e, ns_nth hj]
      have e' : ¬ j = q := fun e' => e e'.symm
      rw [ns_nth hj]
      exact congrArg (fun z => some (v z)) (if_neg e' : (if j = q then x else f j) = f j).symm
  · rw [List.getElem?_eq_none (l := ns v n (upd f q x)) (by rw [ns_len]; omega), List.getElem?_eq_none (l := ns v n f) (by rw [ns_len]; omega)]
    split
    · rw [if_neg (by rw [ns_len]; omega)]
    · rfl
theorem ns_sub {n m q : Nat} {f : Nat → α} (h : q + m ≤ n) : ((ns v n f).drop q).take m = ns v m (fun i => f (q + i)) := by
  apply List.ext_getElem?
  intro j
  by_cases hj : j < m
  · rw [List.getElem?_take, if_pos hj, List.getElem?_drop, ns_nth (by omega), ns_nth hj]
  · rw [List.getElem?_eq_none (l := ns v m _) (by rw [ns_len]; omega), List.getElem?_take, if_neg hj]
theorem ns_put {n m q : Nat} {f h : Nat → α} (hq : q + m ≤ n) : (ns v n f).take q ++ ns v m h ++ (ns v n f).drop (q + (ns v m h).length) = ns v n (fun i => if q ≤ i ∧ i < q + m then h (i - q) else f i) := by
  apply List.ext_getElem?
  intro j
  rw [ns_len]
  by_cases hj : j < n
  · rw [ns_nth hj]
    by_cases h1 : j < q
    · rw [List.append_assoc, List.getElem?_append_left (by simp [ns_len]; omega), List.getElem?_take, if_pos h1, ns_nth hj, if_neg (by omega)]
    · by_cases h2 : j < q + m
      · rw [List.getElem?_append_left (by simp [ns_len]; omega), List.getElem?_append_right (by simp [ns_len]; omega)]
        have e : ((ns v n f).take q).length = q := by simp [ns_len]; omega
        rw [e, ns_nth (by omega), if_pos ⟨by omega, h2⟩]
      · rw [List.getElem?_append_right (by simp [ns_len]; omega), List.getElem?_drop]
        have e : ((ns v n f).take q ++ ns v m h).length = q + m := by simp [ns_len]; omega
        rw [e, show q + m + (j - (q + m)) = j from by omega, ns_nth hj, if_neg (by omega)]
  · rw [List.getElem?_eq_none (l := ns v n _) (by rw [ns_len]; omega), List.getElem?_eq_none]
    simp [ns_len]; omega
theorem ls_sub (l : List α) (q m : Nat) : ((ls v l).drop q).take m = ls v ((l.drop q).take m) := by simp [ls, List.map_take, List.map_drop]
theorem ls_app (l l' : List α) : ls v l ++ ls v l' = ls v (l ++ l') := by simp [ls]
end
theorem ns_step {α : Type} {v : α → Value} {n k : Nat} {f g : Nat → α} {x : α} (h : x = f k) : ns v n (upd (fun i => if i < k then f i else g i) k x) = ns v n (fun i => if i < k + 1 then f i else g i) := by
  subst h
  apply ns_ext
  intro i _
  simp only [upd]
  by_cases h1 : i = k
  · subst h1; rw [if_pos rfl, if_pos (by omega)]
  · by_cases h2 : i < k
    · rw [if_neg h1, if_pos h2, if_pos (by omega)]
    · rw [if_neg h1, if_neg h2, if_neg (by omega)]
theorem ns_full {α : Type} {v : α → Value} {n k : Nat} {f g : Nat → α} (h : n ≤ k) : ns v n (fun i => if i < k then f i else g i) = ns v n f := ns_ext fun i hi => if_pos (by omega)
theorem ns_zero {α : Type} {v : α → Value} {n : Nat} {f g : Nat → α} : ns v n (fun i => if i < 0 then f i else g i) = ns v n g := ns_ext fun i _ => if_neg (by omega)
theorem vb_one (l : List UInt8) : ∀ u ∈ ls vb l, u.oneCell' = true := by intro u hu; obtain ⟨x, _, rfl⟩ := List.mem_map.1 hu; rfl
theorem ns_oneb (n : Nat) (f : Nat → UInt8) : ∀ u ∈ ns vb n f, u.oneCell' = true := by intro u hu; obtain ⟨x, _, rfl⟩ := List.mem_map.1 hu; rfl
theorem ns_onew (n : Nat) (f : Nat → UInt32) : ∀ u ∈ ns vw n f, u.oneCell' = true := by intro u hu; obtain ⟨x, _, rfl⟩ := List.mem_map.1 hu; rfl
theorem ns_oneq (n : Nat) (f : Nat → UInt64) : ∀ u ∈ ns vq n f, u.oneCell' = true := by intro u hu; obtain ⟨x, _, rfl⟩ := List.mem_map.1 hu; rfl
theorem ns_size {α : Type} {v : α → Value} {n : Nat} {f : Nat → α} : (ns v n f).toArray.size = n := by simp [ns_len]

section
variable {P : Program} {s : Sl} {o : Oper} {w0 : World} {L : List Own} {α : Type} {v : α → Value}
/-- An element of an array of the call's own. -/
theorem y_ldn {x : Operand} {t g q e n : Nat} {f : Nat → α} (i : Nat) (ho : o.op = .load t x) (ht : TOne P t) (hx : ev s x = some (.pointer (some ⟨g, q, none⟩))) (hi : L[i]? = some (.blk g e (ns v n f))) (hq : q < n) : Yl P s (Mm w0 L) o (v (f q)) := y_ld i ho ht hx hi (ns_nth hq)
/-- A whole array. -/
theorem y_ldw {x : Operand} {t g e n n' e' : Nat} {f : Nat → α} (i : Nat) (ho : o.op = .load t x) (ht : TArr P t n' e' n) (hx : ev s x = some (.pointer (some ⟨g, 0, none⟩))) (hi : L[i]? = some (.blk g e (ns v n f))) : Yl P s (Mm w0 L) o (.agg (ns v n f).toArray) :=
  y_lda i ho ht hx hi (by rw [ns_sub (by omega)]; simp) (by rw [ns_len]; omega)
/-- A part of one. -/
theorem y_ldp {x : Operand} {t g q e n m n' e' : Nat} {f : Nat → α} (i : Nat) (ho : o.op = .load t x) (ht : TArr P t n' e' m) (hx : ev s x = some (.pointer (some ⟨g, q, none⟩))) (hi : L[i]? = some (.blk g e (ns v n f))) (hq : q + m ≤ n) : Yl P s (Mm w0 L) o (.agg (ns v m (fun i => f (q + i))).toArray) :=
  y_lda i ho ht hx hi (ns_sub hq) (by rw [ns_len]; omega)
theorem y_ixn {x ix : Operand} {t e n m k N : Nat} {f : Nat → α} (ho : o.op = .index t x ix) (ht : TArr P t n e m) (he : TOne P e) {M : As} (hx : ev s x = some (.agg (ns v N f).toArray)) {kd : IntKind} (hi : ev s ix = some (.int kd ((k : Nat) : Int))) (hk : k < n) (hN : n ≤ N) : Yl P s M o (v (f k)) := y_ix ho ht he hx hi hk (ns_nth (by omega))
theorem y_ixnp {x ix : Operand} {t e n m k n' e' m' N : Nat} {f : Nat → α} (ho : o.op = .index t x ix) (ht : TArr P t n e m) (he : TArr P e n' e' m') {M : As} (hx : ev s x = some (.agg (ns v N f).toArray)) {kd : IntKind} (hi : ev s ix = some (.int kd ((k : Nat) : Int))) (hk : k < n) (hN : k * m' + m' ≤ N) : Yl P s M o (.agg (ns v m' (fun i => f (k * m' + i))).toArray) :=
  y_ixag ho ht he hx hi hk (ns_sub hN)
theorem e_stn {x y : Operand} {t g q e n : Nat} {f : Nat → α} {u : α} (i : Nat) (ho : o.op = .store t x y) (hs1 : (P.info? t).map (·.size) = some 1) (hx : ev s x = some (.pointer (some ⟨g, q, none⟩))) (hi : L[i]? = some (.blk g e (ns v n f))) (hy : ev s y = some (v u)) (h1 : (v u).oneCell' = true) (hq : q < n) :
    EfI P s (Mm w0 L) o (fun _ : Unit => undef) (fun _ => Mm w0 (L.set i (.blk g e (ns v n (upd f q u))))) := by
  have h := e_st (w0 := w0) i ho hs1 hx hi hy h1 (by rw [ns_len]; exact hq)
  rwa [ns_set] at h
theorem e_stw {x y : Operand} {t g e n : Nat} {f h : Nat → α} (i : Nat) (ho : o.op = .store t x y) (hs1 : (P.info? t).map (·.size) = some n) (hx : ev s x = some (.pointer (some ⟨g, 0, none⟩))) (hi : L[i]? = some (.blk g e (ns v n f))) (hy : ev s y = some (.agg (ns v n h).toArray)) (h1 : ∀ u ∈ ns v n h, u.oneCell' = true) :
    EfI P s (Mm w0 L) o (fun _ : Unit => undef) (fun _ => Mm w0 (L.set i (.blk g e (ns v n h)))) :=
  e_sta (w0 := w0) (cs' := ns v n h) i ho (by rw [ns_len]; exact hs1) hx hi hy h1 (by rw [ns_len, ns_len]; omega) (by rw [List.take_zero, List.nil_append, List.drop_eq_nil_of_le (by simp [ns_len]), List.append_nil])
theorem e_stp {x y : Operand} {t g q e n m : Nat} {f h : Nat → α} (i : Nat) (ho : o.op = .store t x y) (hs1 : (P.info? t).map (·.size) = some m) (hx : ev s x = some (.pointer (some ⟨g, q, none⟩))) (hi : L[i]? = some (.blk g e (ns v n f))) (hy : ev s y = some (.agg (ns v m h).toArray)) (h1 : ∀ u ∈ ns v m h, u.oneCell' = true) (hq : q + m ≤ n) :
    EfI P s (Mm w0 L) o (fun _ : Unit => undef) (fun _ => Mm w0 (L.set i (.blk g e (ns v n (fun i => if q ≤ i ∧ i < q + m then h (i - q) else f i))))) :=
  e_sta (w0 := w0) i ho (by rw [ns_len]; exact hs1) hx hi hy h1 (by rw [ns_len, ns_len]; exact hq) (ns_put hq)
/-- Conversions between kinds of numbers. -/
theorem y_conv {M : As} {x : Operand} {t t' : TypeId} {k k' : IntKind} {p q : Int} (ho : o.op = .convert t t' x) (ht : P.underlying t = some (.int k)) (ht' : P.underlying t' = some (.int k')) (hx : ev s x = some (.int k p)) (hw : k'.wrap p = q) : Yl P s M o (.int k' q) := fun a ha w _ => by
  have h1 := ha x _ hx
  simp only [execOp, ho, convert, h1, Sem.run_bind, run_underlying ht, run_underlying ht', Result.andThen_ok, Conv.intToInt, hw]
  rfl
end
theorem wrap_nb (n : Nat) : IntKind.u8.wrap (n : Int) = ((UInt8.ofNat n).toNat : Int) := by rw [wrapm_u8]; simp
theorem wrap_nw (n : Nat) : IntKind.u32.wrap (n : Int) = ((UInt32.ofNat n).toNat : Int) := by rw [wrapm_u32]; simp
theorem wrap_nq (n : Nat) : IntKind.u64.wrap (n : Int) = ((UInt64.ofNat n).toNat : Int) := by rw [wrapm_u64]; simp
/-! Addresses in arrays, in the forms in which they are met. -/
section
variable {P : Program} {s : Sl} {M : As} {o : Oper} {w0 : World} {L : List Own}
theorem y_ixa1 {x ix : Operand} {t e n m g k : Nat} (ho : o.op = .indexAddr t x ix) (ht : TArr P t n e m) (he : TOne P e) (hx : ev s x = some (.pointer (some ⟨g, 0, none⟩))) {kd : IntKind} (hi : ev s ix = some (.int kd ((k : Nat) : Int))) (hk : k < n) : Yl P s M o (.pointer (some ⟨g, k, none⟩)) := by
  have h := y_ixa (M := M) ho ht he.2 hx hi hk
  rwa [Nat.zero_add, Nat.mul_one] at h
theorem y_ixaq {x ix : Operand} {t e n m g q k : Nat} (ho : o.op = .indexAddr t x ix) (ht : TArr P t n e m) (he : TOne P e) (hx : ev s x = some (.pointer (some ⟨g, q, none⟩))) {kd : IntKind} (hi : ev s ix = some (.int kd ((k : Nat) : Int))) (hk : k < n) : Yl P s M o (.pointer (some ⟨g, q + k, none⟩)) := by
  have h := y_ixa (M := M) ho ht he.2 hx hi hk
  rwa [Nat.mul_one] at h
theorem y_ixaz {x ix : Operand} {t e n m g k n' e' z : Nat} (ho : o.op = .indexAddr t x ix) (ht : TArr P t n e m) (he : TArr P e n' e' z) (hx : ev s x = some (.pointer (some ⟨g, 0, none⟩))) {kd : IntKind} (hi : ev s ix = some (.int kd ((k : Nat) : Int))) (hk : k < n) : Yl P s M o (.pointer (some ⟨g, k * z, none⟩)) := by
  have h := y_ixa (M := M) ho ht he.2 hx hi hk
  rwa [Nat.zero_add] at h
/-- A part of an array, as a slice. -/
theorem y_slca {x y z : Operand} {t e n m g lo hi : Nat} (ho : o.op = .slice t x (some y) (some z) none) (ht : TArr P t n e m) (he : TOne P e) (hx : ev s x = some (.pointer (some ⟨g, 0, none⟩))) (hy : ev s y = some (vi lo)) (hz : ev s z = some (vi hi)) (h1 : lo ≤ hi) (h2 : hi ≤ n) (h3 : lo < n) : Yl P s M o (.slice (some ⟨g, lo, none⟩) (hi - lo) (n - lo)) := fun a ha w _ => by
  have e1 := ha x _ hx
  have e2 := ha y _ hy
  have e3 := ha z _ hz
  have h4 : 0 ≤ (hi : Int) ∧ (hi : Int) ≤ n := by omega
  have h5 : 0 ≤ (lo : Int) ∧ (lo : Int) ≤ hi := by omega
  have h6 : ¬ n = lo := by omega
  simp only [execOp, ho, Instr.sliceAt, e1, e2, e3, Option.map_some, Option.map_none, Sem.run_bind, run_underlying ht.1, Result.andThen_ok, Instr.sureAddr, Instr.sliceBounds, Sem.run_pure, Instr.sliceBound, asIntOf, if_pos h4, if_pos h5, run_sizeOf_of he.2, Nat.mul_one, Int.toNat_natCast, if_neg h6, addr_add, Nat.zero_add]
theorem y_slcaw {x : Operand} {t e n m g q : Nat} (ho : o.op = .slice t x none none none) (ht : TArr P t n e m) (he : TOne P e) (hx : ev s x = some (.pointer (some ⟨g, q, none⟩))) (h3 : 0 < n) : Yl P s M o (.slice (some ⟨g, q, none⟩) n n) := fun a ha w _ => by
  have e1 := ha x _ hx
  have h6 : ¬ n = 0 := by omega
  simp only [execOp, ho, Instr.sliceAt, e1, Option.map_none, Sem.run_bind, run_underlying ht.1, Result.andThen_ok, Instr.sureAddr, Instr.sliceBounds, Sem.run_pure, run_sizeOf_of he.2, Nat.mul_one, if_neg h6, addr_add, Nat.add_zero, Nat.sub_zero]
theorem y_slcal {x y : Operand} {t e n m g q lo : Nat} (ho : o.op = .slice t x (some y) none none) (ht : TArr P t n e m) (he : TOne P e) (hx : ev s x = some (.pointer (some ⟨g, q, none⟩))) (hy : ev s y = some (vi lo)) (h3 : lo < n) : Yl P s M o (.slice (some ⟨g, q + lo, none⟩) (n - lo) (n - lo)) := fun a ha w _ => by
  have e1 := ha x _ hx
  have e2 := ha y _ hy
  have h5 : 0 ≤ (lo : Int) ∧ (lo : Int) ≤ n := by omega
  have h6 : ¬ n = lo := by omega
  simp only [execOp, ho, Instr.sliceAt, e1, e2, Option.map_some, Option.map_none, Sem.run_bind, run_underlying ht.1, Result.andThen_ok, Instr.sureAddr, Instr.sliceBounds, Sem.run_pure, Instr.sliceBound, asIntOf, if_pos h5, run_sizeOf_of he.2, Nat.mul_one, Int.toNat_natCast, if_neg h6, addr_add]
theorem y_slcah {x z : Operand} {t e n m g q hi : Nat} (ho : o.op = .slice t x none (some z) none) (ht : TArr P t n e m) (he : TOne P e) (hx : ev s x = some (.pointer (some ⟨g, q, none⟩))) (hz : ev s z = some (vi hi)) (h2 : hi ≤ n) (h3 : 0 < n) : Yl P s M o (.slice (some ⟨g, q, none⟩) hi n) := fun a ha w _ => by
  have e1 := ha x _ hx
  have e3 := ha z _ hz
  have h4 : 0 ≤ (hi : Int) ∧ (hi : Int) ≤ n := by omega
  have h6 : ¬ n = 0 := by omega
  simp only [execOp, ho, Instr.sliceAt, e1, e3, Option.map_some, Option.map_none, Sem.run_bind, run_underlying ht.1, Result.andThen_ok, Instr.sureAddr, Instr.sliceBounds, Sem.run_pure, Instr.sliceBound, asIntOf, if_pos h4, run_sizeOf_of he.2, Nat.mul_one, Int.toNat_natCast, if_neg h6, addr_add, Nat.add_zero, Nat.sub_zero]
theorem y_lenE {v : Value} {xs : List Value} {x : Operand} {t e : TypeId} {ats : Array TypeId} (n : Nat) (ho : o.op = .call { callee := .builtin .len, args := #[x], argTypes := ats }) (hats : ats[0]? = some t) (ht : TSlice P t e) (hx : ev s x = some v) (hr : RdM M v xs) (hn : xs.length = n) : Yl P s M o (vi n) := by
  subst hn
  exact y_len ho hats ht.1 hx hr
theorem ls_nthD {l : List UInt8} {q : Nat} (h : q < l.length) : (ls vb l)[q]? = some (vb (l.getD q 0)) := by simp [ls, h]
/-- An element of a slice of bytes that is read. -/
theorem y_ldb {v : Value} {l : List UInt8} {x : Operand} {t k : Nat} (ho : o.op = .load t x) (ht : TOne P t) (hx : ev s x = some (sp v k)) (hr : RdM M v (ls vb l)) (hk : k < l.length) : Yl P s M o (vb (l.getD k 0)) := y_ldr ho ht hx hr (ls_nthD hk)
/-- Bytes appended to bytes. -/
theorem e_appb {x y : Operand} {t e : Nat} {v u : Value} {l l' : List UInt8} {ys : List Value} (i : Nat) (ho : o.op = .call { callee := .builtin .append, args := #[x, y], argTypes := #[t, t] }) (ht : TApp P t e 1 (.int .u8 0))
    (hx : ev s x = some v) (hi : L[i]? = some (.row e v (ls vb l))) (hy : ev s y = some u) (hr : RdM (Mm w0 L) u ys) (hys : ys = ls vb l') (hb : l.length + l'.length ≤ 140737488355328) :
    EfI P s (Mm w0 L) o (fun v' : Value => v') (fun v' => Mm w0 (L.set i (.row e v' (ls vb (l ++ l'))))) := by
  subst hys
  have h := e_app (w0 := w0) i ho ht hx hi hy hr (vb_one l') (by rw [ls_len, ls_len]; omega) (by rw [ls_len, ls_len]; omega)
  rwa [ls_app] at h
end
end Go.Proofs.YtcdidapkpfnphaaDoor
