/- Words of my own: slices turned to arrays, arrays built of four numbers, rows of arrays. -/
import Derived.Test.YtcdidapkpfnphaaDoorLibG
namespace Go.Proofs.YtcdidapkpfnphaaDoor
open Go.RowKit
section
variable {P : Program} {s : Sl} {M : As} {o : Oper} {w0 : World} {L : List Own}
theorem run_loadVar_at (w : World) (a : Addr) (ty : TypeId) (cs : List Value) {n e m : Nat} (hc : ∀ j v, cs[j]? = some v → w.cell? (a.add j) = some v) (ht : TArr P ty n e m) (hm : m = cs.length) : (loadVar ty a).run P w = .ok (.agg cs.toArray) w := by
  subst hm
  have hl : (loadCells a cs.length).run P w = .ok cs.toArray w := run_loadCells_list (P := P) w a cs hc
  have hagg : (isAgg ty).run P w = .ok true w := by
    unfold isAgg
    rw [Sem.run_bind, run_underlying ht.1 w]
    rfl
  simp only [loadVar, Sem.run_bind, hagg, Result.andThen_ok, if_true, run_sizeOf_of ht.2, hl]
  rfl
/-- A slice as the address of an array. -/
theorem y_s2a {v : Value} {xs : List Value} {x : Operand} {t n e m : Nat} (ho : o.op = .sliceToArrayPointer t x) (ht : TArr P t n e m) (hx : ev s x = some v) (hr : RdM M v xs) (hn : n ≤ xs.length) (h0 : 0 < n) : Yl P s M o (sp v 0) := fun a ha w hm => by
  obtain ⟨A, c, rfl, hc, hcell⟩ := hr w hm
  obtain ⟨ad, rfl, _⟩ := hcell 0 _ (List.getElem?_eq_getElem (by omega))
  have e1 := ha x _ hx
  have h2 : ¬ xs.length < n := by omega
  simp only [execOp, ho, Instr.arrayAt, e1, Sem.run_bind, run_underlying ht.1, Result.andThen_ok, if_neg h2, sp, spa]
  rfl
theorem y_ldsa {v : Value} {xs ys : List Value} {x : Operand} {t n e m : Nat} (ho : o.op = .load t x) (ht : TArr P t n e m) (hx : ev s x = some (sp v 0)) (hr : RdM M v xs) (hy : xs.take m = ys) (hl : m ≤ xs.length) : Yl P s M o (.agg ys.toArray) := fun a ha w hm => by
  subst hy
  have e1 := ha x _ hx
  have h2 := run_loadVar_at (P := P) w (spa v 0) t (xs.take m) (fun j u hu => by
    have hj : j < m := by have := (List.getElem?_eq_some_iff.1 hu).1; simp at this; omega
    rw [List.getElem?_take, if_pos hj] at hu
    have h3 := (hr w hm).cell hu
    unfold spa at h3 ⊢
    rw [add_add, Nat.zero_add]
    exact h3) ht (by simp; omega)
  simp [execOp, ho, e1, sp, Instr.loadAt, Instr.sureAddr, h2]
theorem y_s2ab {x : Operand} {t n e m g q l c : Nat} (ho : o.op = .sliceToArrayPointer t x) (ht : TArr P t n e m) (hx : ev s x = some (.slice (some ⟨g, q, none⟩) l c)) (hn : n ≤ l) : Yl P s M o (.pointer (some ⟨g, q, none⟩)) := fun a ha w hm => by
  have e1 := ha x _ hx
  have h2 : ¬ l < n := by omega
  simp only [execOp, ho, Instr.arrayAt, e1, Sem.run_bind, run_underlying ht.1, Result.andThen_ok, if_neg h2]
  rfl
/-! rows of arrays -/
def TSlc (P : Program) (t e z : Nat) : Prop := P.underlying t = some (.slice e) ∧ (P.info? e).map (·.size) = some z
theorem y_slcz {x y : Operand} {t e n m g lo z : Nat} (ho : o.op = .slice t x (some y) none none) (ht : TArr P t n e m) (he : (P.info? e).map (·.size) = some z) (hx : ev s x = some (.pointer (some ⟨g, 0, none⟩))) (hy : ev s y = some (vi lo)) (h3 : lo < n) : Yl P s M o (.slice (some ⟨g, lo * z, none⟩) (n - lo) (n - lo)) := fun a ha w _ => by
  have e1 := ha x _ hx
  have e2 := ha y _ hy
  have h5 : 0 ≤ (lo : Int) ∧ (lo : Int) ≤ n := by omega
  have h6 : ¬ n = lo := by omega
  simp only [execOp, ho, Instr.sliceAt, e1, e2, Option.map_some, Option.map_none, Sem.run_bind, run_underlying ht.1, Result.andThen_ok, Instr.sureAddr, Instr.sliceBounds, Sem.run_pure, Instr.sliceBound, asIntOf, if_pos h5, run_sizeOf_of he, Int.toNat_natCast, if_neg h6, addr_add, Nat.zero_add]
theorem y_ixz {x ix : Operand} {t e g q n c k z : Nat} (ho : o.op = .indexAddr t x ix) (ht : TSlc P t e z) (hx : ev s x = some (.slice (some ⟨g, q, none⟩) n c)) {kd : IntKind} (hi : ev s ix = some (.int kd ((k : Nat) : Int))) (hk : k < n) : Yl P s M o (.pointer (some ⟨g, q + k * z, none⟩)) := fun a ha w hm => by
  have h1 := ha x _ hx
  have h2 := ha ix _ hi
  simp [execOp, ho, Instr.indexAt, asIntOf, h1, h2, run_underlying ht.1, hk, run_sizeOf_of ht.2, addr_add]
theorem y_lenc {A : Option Addr} {n c : Nat} {x : Operand} {t e z : Nat} {ats : Array TypeId} (ho : o.op = .call { callee := .builtin .len, args := #[x], argTypes := ats }) (hats : ats[0]? = some t) (ht : TSlc P t e z) (hx : ev s x = some (.slice A n c)) : Yl P s M o (vi n) := fun a ha w hm => by
  have h1 := ha x _ hx
  simp [execOp, ho, resolve, invoke, builtin, Builtin.len_, h1, hats, run_underlying ht.1, goInt]
/-! arrays built -/
theorem y_bu4 {t e : Nat} {a b c d : Operand} (f : Nat → UInt8) (ho : o.op = .build t #[(0, a), (1, b), (2, c), (3, d)]) (ht : TArr P t 4 e 4) (he : TOne P e) (hz : TZero P t (ns vb 4 (fun _ => 0)))
    (ha : ev s a = some (vb (f 0))) (hb : ev s b = some (vb (f 1))) (hc : ev s c = some (vb (f 2))) (hd : ev s d = some (vb (f 3))) : Yl P s M o (.agg (ns vb 4 f).toArray) := by
  obtain ⟨z, hz1, hz2⟩ := hz
  refine y_build (vs := #[(0, vb (f 0)), (1, vb (f 1)), (2, vb (f 2)), (3, vb (f 3))]) ho (fun w => ?_) (by simp [ha, hb, hc, hd])
  have hz3 : z.cells = (ns vb 4 (fun _ => 0)).toArray := Array.toList_inj.1 (by rw [hz2])
  have hzz : (zeroValue t).run P w = .ok z w := by
    cases hq : P.info? t with
    | none => simp [hq] at hz1
    | some i => simp [hq] at hz1; simp [zeroValue, typeInfo, hq, hz1]
  simp only [Instr.build, Sem.run_bind, hzz, Result.andThen_ok, run_underlying ht.1, run_sizeOf_of he.2, hz3]
  rfl
/-- An array's content within a whole. -/
theorem ns_sub0 {α : Type} {v : α → Value} {n m : Nat} {f : Nat → α} (h : m ≤ n) : (ns v n f).take m = ns v m f := by
  have := ns_sub (v := v) (f := f) (n := n) (m := m) (q := 0) (by omega)
  simpa using this
theorem ls_fn {n : Nat} {l : List UInt8} (h : n ≤ l.length) : (ls vb l).take n = ns vb n (fun i => l.getD i 0) := by
  apply List.ext_getElem?
  intro j
  by_cases hj : j < n
  · rw [List.getElem?_take, if_pos hj, ls_nthD (by omega), ns_nth hj]
  · rw [List.getElem?_eq_none (by simp [ls_len]; omega), List.getElem?_eq_none (by rw [ns_len]; omega)]
theorem ls_fn_at {n q : Nat} {l : List UInt8} (h : q + n ≤ l.length) : ((ls vb l).drop q).take n = ns vb n (fun i => l.getD (q + i) 0) := by
  apply List.ext_getElem?
  intro j
  by_cases hj : j < n
  · rw [List.getElem?_take, if_pos hj, List.getElem?_drop, ls_nthD (by omega), ns_nth hj]
  · rw [List.getElem?_eq_none (by simp [ls_len]; omega), List.getElem?_eq_none (by rw [ns_len]; omega)]
theorem ls_fn_sl {n q r : Nat} {l : List UInt8} (hr : n ≤ r) (h : q + n ≤ l.length) : (((ls vb l).drop q).take r).take n = ns vb n (fun i => l.getD (q + i) 0) := by
  rw [List.take_take, Nat.min_eq_left hr, ls_fn_at h]
/-- A part of an array, with its length said. -/
theorem y_slcaF {x y z : Operand} {t e n m g lo hi n' : Nat} (ho : o.op = .slice t x (some y) (some z) none) (ht : TArr P t n e m) (he : TOne P e) (hx : ev s x = some (.pointer (some ⟨g, 0, none⟩))) (hy : ev s y = some (vi lo)) (hz : ev s z = some (vi hi)) (hn : hi = lo + n') (h2 : hi ≤ n) (h3 : lo < n) : Yl P s M o (.slice (some ⟨g, lo, none⟩) n' (n - lo)) := by
  have h := y_slca (M := M) ho ht he hx hy hz (by omega) h2 h3
  rwa [show hi - lo = n' from by omega] at h
/-- The tail of a part of an array of arrays, with its length said. -/
theorem y_slcalF {x y : Operand} {t e n m g q lo n' : Nat} (ho : o.op = .slice t x (some y) none none) (ht : TArr P t n e m) (he : TOne P e) (hx : ev s x = some (.pointer (some ⟨g, q, none⟩))) (hy : ev s y = some (vi lo)) (h3 : lo < n) (hn : n' = n - lo) : Yl P s M o (.slice (some ⟨g, q + lo, none⟩) n' n') := by
  subst hn
  exact y_slcal ho ht he hx hy h3
theorem take_ns {α : Type} {v : α → Value} {n m : Nat} {f : Nat → α} (h : n ≤ m) : (ns v n f).take m = ns v n f := List.take_of_length_le (by rw [ns_len]; exact h)
/-- An array of numbers copied into another. -/
theorem e_cpn {x y : Operand} {t t' e g q n c m N e' : Nat} {u : Value} {f h : Nat → UInt8} (i : Nat) (ho : o.op = .call { callee := .builtin .copy, args := #[x, y], argTypes := #[t, t'] }) (ht : TSlice P t e)
    (hx : ev s x = some (.slice (some ⟨g, q, none⟩) n c)) (hi : L[i]? = some (.blk g e' (ns vb N f))) (hy : ev s y = some u) (hr : RdM (Mm w0 L) u (ns vb m h)) (hm : m ≤ n) (hq : q + n ≤ N) :
    EfI P s (Mm w0 L) o (fun _ : Unit => vi m) (fun _ => Mm w0 (L.set i (.blk g e' (ns vb N (fun i => if q ≤ i ∧ i < q + m then h (i - q) else f i))))) := by
  have h1 := e_copy (w0 := w0) (cs' := ns vb N (fun i => if q ≤ i ∧ i < q + m then h (i - q) else f i)) i ho ht hx hi hy hr (ns_oneb _ _) (by rw [ns_len]; exact hq) (by rw [take_ns hm]; exact ns_put (by omega))
  rw [take_ns hm, ns_len] at h1
  exact h1
end
/-- What is kept, behind a store to another. -/
theorem Mm.pick_set {w0 w : World} {L : List Own} {x : Own} {i : Nat} (h : Mm w0 (L.set i x) w) (is : List Nat) (hn : is.Nodup) (hi : is.all (fun j => !(Nat.beq i j)) = true) : Mm w0 (is.filterMap (L[·]?)) w := by
  have h1 := Mm.pick h is hn
  have h2 : is.filterMap ((L.set i x)[·]?) = is.filterMap (L[·]?) := by
    clear h h1 hn
    induction is with
    | nil => rfl
    | cons j is ih =>
      rw [List.all_cons, Bool.and_eq_true] at hi
      have hne : i ≠ j := fun e => by subst e; simp at hi
      rw [List.filterMap_cons, List.filterMap_cons, ih hi.2, List.getElem?_set_ne hne]
  rwa [h2] at h1
/-! Slices written out. -/
theorem cells_one {v : Value} (h : v.oneCell' = true) : v.cells = #[v] := by cases v <;> first | rfl | cases h
section
variable {P : Program} {s : Sl} {o : Oper} {w0 : World} {L : List Own}
theorem e_lit0 {t e : Nat} {z : Value} (ho : o.op = .buildSlice t 0 #[]) (ht : TSlice P t e) (hz : (P.info? e).map (·.zero) = some (some z)) :
    EfI P s (Mm w0 L) o (fun g : Nat => .slice (some ⟨g, 0, none⟩) 0 0) (fun g => Mm w0 (.blk g e [] :: L)) :=
  e_lit (cs := #[]) (vs := #[]) ho ht hz (by decide) rfl (by simp [Instr.fill])
theorem e_lit1 {t e : Nat} {x : Operand} {u z : Value} (ho : o.op = .buildSlice t 1 #[(0, x)]) (ht : TSlice P t e) (hz : (P.info? e).map (·.zero) = some (some z)) (hz1 : z.oneCell' = true) (hx : ev s x = some u) (hu : u.oneCell' = true) :
    EfI P s (Mm w0 L) o (fun g : Nat => .slice (some ⟨g, 0, none⟩) 1 1) (fun g => Mm w0 (.blk g e [u] :: L)) :=
  e_lit (cs := #[u]) (vs := #[(0, u)]) ho ht hz (by decide) (by simp [hx]) (by simp [Instr.fill, cells_one hz1, cells_one hu, show Array.range 1 = #[0] from by decide])
theorem e_lit2 {t e : Nat} {x y : Operand} {u v z : Value} (ho : o.op = .buildSlice t 2 #[(0, x), (1, y)]) (ht : TSlice P t e) (hz : (P.info? e).map (·.zero) = some (some z)) (hz1 : z.oneCell' = true) (hx : ev s x = some u) (hy : ev s y = some v) (hu : u.oneCell' = true) (hv : v.oneCell' = true) :
    EfI P s (Mm w0 L) o (fun g : Nat => .slice (some ⟨g, 0, none⟩) 2 2) (fun g => Mm w0 (.blk g e [u, v] :: L)) :=
  e_lit (cs := #[u, v]) (vs := #[(0, u), (1, v)]) ho ht hz (by decide) (by simp [hx, hy]) (by simp [Instr.fill, cells_one hz1, cells_one hu, cells_one hv, show Array.range 2 = #[0, 1] from by decide])
theorem e_lit3 {t e : Nat} {x y x' : Operand} {u v u' z : Value} (ho : o.op = .buildSlice t 3 #[(0, x), (1, y), (2, x')]) (ht : TSlice P t e) (hz : (P.info? e).map (·.zero) = some (some z)) (hz1 : z.oneCell' = true) (hx : ev s x = some u) (hy : ev s y = some v) (hx' : ev s x' = some u') (hu : u.oneCell' = true) (hv : v.oneCell' = true) (hu' : u'.oneCell' = true) :
    EfI P s (Mm w0 L) o (fun g : Nat => .slice (some ⟨g, 0, none⟩) 3 3) (fun g => Mm w0 (.blk g e [u, v, u'] :: L)) :=
  e_lit (cs := #[u, v, u']) (vs := #[(0, u), (1, v), (2, u')]) ho ht hz (by decide) (by simp [hx, hy, hx']) (by simp [Instr.fill, cells_one hz1, cells_one hu, cells_one hv, cells_one hu', show Array.range 3 = #[0, 1, 2] from by decide])
end
/-! Draws: one that yields beside one that acts. -/
section
variable {P : Program} {ops : Array Oper} {Q : Exit → Act → World → Prop} {n : Fz} {s : Sl} {M : As} {S : As} {fuel : Nat} {listed : Array Bool}
theorem HH.sl {s' : Sl} (hs : Sub s' s) (h : HH P ops Q S fuel listed n s' M) : HH P ops Q S fuel listed n s M := fun a w hf hm => h a w (hf.sub hs) hm
theorem Yl.sl {s' : Sl} {o : Oper} {v : Value} (hs : ∀ x u, ev s' x = some u → ev s x = some u) (h : Yl P s' M o v) : Yl P s M o v := fun a ha w hm => h a (fun x u hx => ha x u (hs x u hx)) w hm
theorem Fr.swap {a : Act} {d d' : Nat} {v v' : Value} (h : Fr n ((d, v) :: (d', v') :: s) a) (hne : d ≠ d') : Fr n ((d', v') :: (d, v) :: s) a := by
  refine ⟨h.size, h.defers, fun k u hk => h.get k u ?_⟩
  simp only [lk] at hk ⊢
  cases h1 : Nat.beq d k <;> cases h2 : Nat.beq d' k <;> simp only [h1, h2, cond_true, cond_false] at hk ⊢ <;> try exact hk
  exact absurd ((Nat.eq_of_beq_eq_true h1).trans (Nat.eq_of_beq_eq_true h2).symm) hne
theorem hh_pair {o o' : Oper} {v : Value} {ι : Type} {f : ι → Value} {R : ι → As} {d d' : Nat} (i j : Nat) (hr : Region.ready .any ops listed = [i, j] ∨ Region.ready .any ops listed = [j, i]) (hr1 : Region.ready .any ops (listed.setIfInBounds i true) = [j]) (hr2 : Region.ready .any ops (listed.setIfInBounds j true) = [i])
    (hi : ops[i]? = some o) (hg : o.guard = none) (hd : o.dst = some d) (hn : Nat.blt d n.n = true) (hj : ops[j]? = some o') (hg' : o'.guard = none) (hd' : o'.dst = some d') (hn' : Nat.blt d' n.n = true) (hij : Nat.beq i j = false) (hdd : Nat.beq d d' = false)
    (he : EfI P s M o' f R) (hy : EfI P s M o (fun _ : Unit => v) (fun _ => M)) (hyR : ∀ y, EfI P s (R y) o (fun _ : Unit => v) (fun _ => R y)) (hMS : ∀ w, M w → S w) (hRS : ∀ y w, R y w → S w) (hf : lk s d = none) (hf' : lk s d' = none)
    (h : ∀ y, HH P ops Q S fuel ((listed.setIfInBounds i true).setIfInBounds j true) n ((d', f y) :: (d, v) :: s) (R y)) : HH P ops Q S (fuel + 1 + 1) listed n s M := fun a w hfr hm =>
  by
    have hall : ∀ k, (k = i ∨ k = j) → wpOp P ops (NoP Q) k (fun a' w' => S w' ∧ wpAnyH P .any ops (NoP Q) S (fuel + 1) (listed.setIfInBounds k true) a' w') a w := by
     intro k hk
     have hne : i ≠ j := fun e => by subst e; simp at hij
     have hdne : d ≠ d' := fun e => by subst e; simp at hdd
     have hev : ∀ (d : Nat) (u : Value), lk s d = none → ∀ x z, ev s x = some z → ev ((d, u) :: s) x = some z := fun d u hnone x z hz => by
       cases x with
       | tmp t =>
         have ht : Nat.beq d t = false := by
           cases hb : Nat.beq d t with
           | false => rfl
           | true => rw [Nat.eq_of_beq_eq_true hb] at hnone; simp only [ev] at hz; rw [hz] at hnone; cases hnone
         simp only [ev, lk, ht, cond_false] at hz ⊢
         exact hz
       | _ => simpa [ev] using hz
     rcases hk with rfl | rfl
     · unfold wpOp
       simp only [hi]
       rw [if_pos (by simp [Region.wanted, hg])]
       refine .inl ?_
       refine hy a (fun x u hx => hfr.eval hx) w hm _ _ fun _ w' hm' => ?_
       rw [hd]
       refine ⟨hMS w' hm', ?_⟩
       have hfr1 := hfr.put hn v
       refine wpAnyH_all hr1 (by simp) fun k hk => ?_
       obtain rfl : k = j := by simpa using hk
       unfold wpOp
       simp only [hj]
       rw [if_pos (by simp [Region.wanted, hg'])]
       exact .inl (he _ (fun x u hx => hfr1.eval (hev d v hf x u hx)) w' hm' _ _ fun y w'' hy' => by rw [hd']; exact ⟨hRS y w'' hy', h y _ w'' (hfr1.put hn' (f y)) hy'⟩)
     · unfold wpOp
       simp only [hj]
       rw [if_pos (by simp [Region.wanted, hg'])]
       refine .inl (he a (fun x u hx => hfr.eval hx) w hm _ _ fun y w' hy' => ?_)
       rw [hd']
       refine ⟨hRS y w' hy', ?_⟩
       have hfr1 := hfr.put hn' (f y)
       refine wpAnyH_all hr2 (by simp) fun k hk => ?_
       obtain rfl : k = i := by simpa using hk
       unfold wpOp
       simp only [hi]
       rw [if_pos (by simp [Region.wanted, hg])]
       refine .inl ((hyR y) _ (fun x u hx => hfr1.eval (hev d' (f y) hf' x u hx)) w' hy' _ _ fun _ w'' hy'' => ?_)
       rw [hd]
       refine ⟨hRS y w'' hy'', ?_⟩
       have hh := h y
       rw [Array.setIfInBounds_comm _ _ hne] at hh
       exact hh _ w'' ((hfr1.put hn v).swap hdne) hy''
    rcases hr with hr | hr
    · exact wpAnyH_all hr (by simp) fun k hk => hall k (by simpa using hk)
    · exact wpAnyH_all hr (by simp) fun k hk => hall k (by rcases (show k = j ∨ k = i by simpa using hk) with h | h; exact .inr h; exact .inl h)
end
end Go.Proofs.YtcdidapkpfnphaaDoor
