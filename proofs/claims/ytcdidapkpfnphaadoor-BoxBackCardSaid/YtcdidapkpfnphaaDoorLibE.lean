/- Words of my own for operations that act: new blocks, stores, make, literals, append, copy, conversions, calls; the head and the end of a function; regions that draw their order. -/
import Derived.Test.YtcdidapkpfnphaaDoorLibD
import Derived.Lib.AppendStr
import Derived.Lib.ConvBytes
import Derived.Laws.BytesArg
namespace Go.Proofs.YtcdidapkpfnphaaDoor
open Go.RowKit
open Go.Lib (strCells strCells_length run_append_own_string)

def EfI (P : Program) (s : Sl) (M : As) (o : Oper) {ι : Type} (f : ι → Value) (R : ι → As) : Prop :=
  ∀ (a : Act), (∀ x u, ev s x = some u → a.eval x = u) → ∀ w, M w → ∀ (K : Act → World → Prop) (Q : Exit → Act → World → Prop),
    (∀ y w', R y w' → K (a.put o.dst (f y)) w') → o.wp P a w K Q
section
variable {P : Program} {n : Fz} {s : Sl} {M : As} {Q : Exit → Act → World → Prop}
theorem hl_i {ops : Array Oper} {o : Oper} {rest : List Oper} {ι : Type} {f : ι → Value} {R : ι → As} {d : Nat} (hg : o.guard = none) (hd : o.dst = some d) (hn : Nat.blt d n.n = true)
    (he : EfI P s M o f R) (h : ∀ y, HL P ops Q rest n ((d, f y) :: s) (R y)) : HL P ops Q (o :: rest) n s M := fun a w hf hm =>
  wpList_plain hg fun K hK => he a (fun x u hx => hf.eval hx) w hm K Q fun y w' hr => by
    rw [hd]
    exact hK _ _ (h y _ w' (hf.put hn (f y)) hr)
theorem hl_i0 {ops : Array Oper} {o : Oper} {rest : List Oper} {ι : Type} {f : ι → Value} {R : ι → As} (hg : o.guard = none) (hd : o.dst = none)
    (he : EfI P s M o f R) (h : ∀ y, HL P ops Q rest n s (R y)) : HL P ops Q (o :: rest) n s M := fun a w hf hm =>
  wpList_plain hg fun K hK => he a (fun x u hx => hf.eval hx) w hm K Q fun y w' hr => by
    rw [hd]
    exact hK _ _ (h y _ w' hf hr)
theorem hl_ig {ops : Array Oper} {o : Oper} {rest : List Oper} {ι : Type} {f : ι → Value} {R : ι → As} {d : Nat} (j t : Nat) (b : Bool) (hg : o.guard = some (j, b)) (hj : (ops[j]?).bind (·.dst) = some t) (hb : lk s t = some (.bool b))
    (hd : o.dst = some d) (hn : Nat.blt d n.n = true)
    (he : EfI P s M o f R) (h : ∀ y, HL P ops Q rest n ((d, f y) :: s) (R y)) : HL P ops Q (o :: rest) n s M := fun a w hf hm =>
  wpList_step fun K hK => by
    have hw := wanted_of hf hg hj hb
    rw [hw]
    simp only [beq_self_eq_true, if_true]
    refine he a (fun x u hx => hf.eval hx) w hm K Q fun y w' hr => ?_
    rw [hd]
    exact hK _ _ (h y _ w' (hf.put hn (f y)) hr)
/-- The assertion in other words. -/
theorem HC.mem {c : Code} {M' : As} (hM : ∀ w, M w → M' w) (h : HC P c Q n s M') : HC P c Q n s M := fun a w hf hm => h a w hf (hM w hm)
theorem HL.mem {ops : Array Oper} {l : List Oper} {M' : As} (hM : ∀ w, M w → M' w) (h : HL P ops Q l n s M') : HL P ops Q l n s M := fun a w hf hm => h a w hf (hM w hm)
theorem HQ.mem {e : Exit} {M' : As} (hM : ∀ w, M w → M' w) (h : HQ Q e n s M') : HQ Q e n s M := fun a w hf hm => h a w hf (hM w hm)
theorem HL.sl {ops : Array Oper} {l : List Oper} {s' : Sl} (hs : Sub s' s) (h : HL P ops Q l n s' M) : HL P ops Q l n s M := fun a w hf hm => h a w (hf.sub hs) hm
theorem HC.sl {c : Code} {s' : Sl} (hs : Sub s' s) (h : HC P c Q n s' M) : HC P c Q n s M := fun a w hf hm => h a w (hf.sub hs) hm
end

section
variable {P : Program} {s : Sl} {M : As} {o : Oper} {w0 : World} {L : List Own}
theorem ef_run {ι : Type} {f : ι → Value} {R : ι → As} (h : ∀ a : Act, (∀ x u, ev s x = some u → a.eval x = u) → ∀ w, M w → ∃ y w', (execOp a.eval o).run P w = .ok (.value (f y)) w' ∧ R y w') : EfI P s M o f R := fun a ha w hm K Q hk => by
  obtain ⟨y, w', hr, hR⟩ := h a ha w hm
  unfold Oper.wp
  rw [hr, Oper.upon_value]
  exact hk y w' hR
/-- Whatever yields acts too. -/
theorem ef_y {v : Value} (h : Yl P s M o v) : EfI P s M o (fun _ : Unit => v) (fun _ => M) := ef_run fun a ha w hm => ⟨(), w, h a ha w hm, hm⟩
theorem e_box {x : Operand} {t : Nat} {v : Value} {cs : List Value} (ho : o.op = .box t x) (hx : ev s x = some v) (hc : v.cells.toList = cs) : EfI P s (Mm w0 L) o (fun g : Nat => .pointer (some ⟨g, 0, none⟩)) (fun g => Mm w0 (.blk g t cs :: L)) := ef_run fun a ha w hm => by
  subst hc
  refine ⟨w.heap.size, w.alloc (.cells v.cells t), ?_, by simpa [Mm] using Mem.add hm t v.cells.toList⟩
  simp [execOp, ho, ha x v hx, Instr.box, newVar, newRow]
theorem e_boxa {x : Operand} {t : Nat} {cs : List Value} (ho : o.op = .box t x) (hx : ev s x = some (.agg cs.toArray)) : EfI P s (Mm w0 L) o (fun g : Nat => .pointer (some ⟨g, 0, none⟩)) (fun g => Mm w0 (.blk g t cs :: L)) := e_box ho hx rfl
theorem e_box1 {x : Operand} {t : Nat} {v : Value} (ho : o.op = .box t x) (hx : ev s x = some v) (h1 : v.oneCell' = true) : EfI P s (Mm w0 L) o (fun g : Nat => .pointer (some ⟨g, 0, none⟩)) (fun g => Mm w0 (.blk g t [v] :: L)) := e_box ho hx (by cases v <;> first | rfl | cases h1)
theorem e_alloc {t : Nat} {cs : List Value} (ho : o.op = .alloc t) (hz : TZero P t cs) : EfI P s (Mm w0 L) o (fun g : Nat => .pointer (some ⟨g, 0, none⟩)) (fun g => Mm w0 (.blk g t cs :: L)) := ef_run fun a ha w hm => by
  obtain ⟨z, hz, rfl⟩ := hz
  refine ⟨w.heap.size, w.alloc (.cells z.cells t), ?_, by simpa [Mm] using Mem.add hm t z.cells.toList⟩
  cases hq : P.info? t with
  | none => simp [hq] at hz
  | some i => simp [hq] at hz; simp [execOp, ho, Instr.alloc, zeroValue, typeInfo, hq, hz, newVar, newRow]
theorem Mem.stored {w : World} (h : Mem w0 w L) {i g e : Nat} {cs cs' : List Value} (hi : L[i]? = some (.blk g e cs)) : Mem w0 (w.setRow g cs'.toArray) (L.set i (.blk g e cs')) := by
  have hok := h.at_ hi
  refine h.turn hi (fun b h0 h1 hne => setRow_other w g b _ (fun e => hne (by rw [e]; rfl))) ?_ ⟨hok.1, ?_⟩ (.inl rfl)
  · exact h.low.trans ⟨rfl, rfl, rfl, by simp, fun k hk => setRow_other w g k _ (by have := hok.1; omega)⟩
  · exact setRow_heap w g _ _ e _ hok.2
theorem e_st {x y : Operand} {t g q e : Nat} {cs : List Value} {u : Value} (i : Nat) (ho : o.op = .store t x y) (hs1 : (P.info? t).map (·.size) = some 1) (hx : ev s x = some (.pointer (some ⟨g, q, none⟩))) (hi : L[i]? = some (.blk g e cs)) (hy : ev s y = some u) (h1 : u.oneCell' = true) (hq : q < cs.length) :
    EfI P s (Mm w0 L) o (fun _ : Unit => undef) (fun _ => Mm w0 (L.set i (.blk g e (cs.set q u)))) := fun a ha w hm K Q hk => by
  have e1 := ha x _ hx
  have e2 := ha y _ hy
  have hc : u.cells = #[u] := by cases u <;> first | rfl | cases h1
  have hst := run_storeCells_at P g q e [u] 0 cs.toArray w (hm.at_ hi).2 (by simp; omega) (by simpa using h1)
  have hcs : cs.take q ++ [u] ++ cs.drop (q + 1) = cs.set q u := by rw [List.set_eq_take_append_cons_drop, if_pos hq]; simp
  simp only [Nat.add_zero, List.length_cons, List.length_nil, Nat.zero_add, hcs] at hst
  unfold Oper.wp
  have hr : (execOp a.eval o).run P w = .ok .skip (w.setRow g (cs.set q u).toArray) := by
    simp [execOp, ho, e1, e2, Instr.storeAt, Instr.sureAddr, storeVar, hc, run_sizeOf_of hs1, hst]
  rw [hr, Oper.upon_skip]
  exact hk () _ (Mem.stored hm hi)
/-- An array that is stored whole, or into a part of a block. -/
theorem e_sta {x y : Operand} {t g q e : Nat} {cs xs cs' : List Value} (i : Nat) (ho : o.op = .store t x y) (hs1 : (P.info? t).map (·.size) = some xs.length) (hx : ev s x = some (.pointer (some ⟨g, q, none⟩))) (hi : L[i]? = some (.blk g e cs)) (hy : ev s y = some (.agg xs.toArray)) (h1 : ∀ u ∈ xs, u.oneCell' = true) (hq : q + xs.length ≤ cs.length)
    (hc' : cs.take q ++ xs ++ cs.drop (q + xs.length) = cs') :
    EfI P s (Mm w0 L) o (fun _ : Unit => undef) (fun _ => Mm w0 (L.set i (.blk g e cs'))) := fun a ha w hm K Q hk => by
  subst hc'
  have e1 := ha x _ hx
  have e2 := ha y _ hy
  have hst := run_storeCells_at P g q e xs 0 cs.toArray w (hm.at_ hi).2 (by simpa using hq) h1
  simp only [Nat.add_zero] at hst
  unfold Oper.wp
  have hr : (execOp a.eval o).run P w = .ok .skip (w.setRow g (cs.take q ++ xs ++ cs.drop (q + xs.length)).toArray) := by
    simp [execOp, ho, e1, e2, Instr.storeAt, Instr.sureAddr, storeVar, Value.cells, run_sizeOf_of hs1, hst]
  rw [hr, Oper.upon_skip]
  exact hk () _ (Mem.stored hm hi)
theorem e_make {x y : Operand} {t e l c : Nat} {z : Value} {b : Nat} (ho : o.op = .makeSlice t x y) (ht : TSlice P t e) (hz : (P.info? e).map (fun i => (i.zero, i.bytes)) = some (some z, b)) (hz1 : z.cells = #[z]) (hx : ev s x = some (vi l)) (hy : ev s y = some (vi c)) (hlc : l ≤ c) (hc : b * c ≤ 281474976710656) (hc' : c ≤ 9223372036854775807) :
    EfI P s (Mm w0 L) o (fun g : Nat => .slice (some ⟨g, 0, none⟩) l c) (fun g => Mm w0 (.blk g e (List.replicate c z) :: L)) := ef_run fun a ha w hm => by
  obtain ⟨ht1, ht2⟩ := ht
  obtain ⟨i, hi, hzz⟩ := Option.map_eq_some_iff.1 hz
  simp only [Prod.mk.injEq] at hzz
  obtain ⟨hz0, hb⟩ := hzz
  have hsz : i.size = 1 := by simpa [hi] using ht2
  have hbc : (i.bytes : Int) * (c : Int) ≤ 281474976710656 := by rw [hb, ← Int.natCast_mul]; omega
  have hr := run_make (P := P) w t e i z ht1 hi hz0 .i64 .i64 l c (by omega) (by omega) hbc (by omega)
  simp only [Int.toNat_natCast, hsz, Nat.mul_one, hz1] at hr
  have hcells : madeCells #[z] c = (List.replicate c z).toArray := by
    apply Array.toList_inj.1
    rw [toList_madeCells_one]
  rw [hcells] at hr
  refine ⟨w.heap.size, _, ?_, Mem.add hm e (List.replicate c z)⟩
  simp only [execOp, ho, ha x _ hx, ha y _ hy, Sem.run_bind, hr, Result.andThen_ok]
  rfl
theorem e_lit {t e l : Nat} {parts : Array (Nat × Operand)} {vs : Array (Nat × Value)} {cs : Array Value} {z : Value} (ho : o.op = .buildSlice t l parts) (ht : TSlice P t e) (hz : (P.info? e).map (·.zero) = some (some z)) (hl : l ≤ 1024)
    (hx : parts.toList.map (fun p => (ev s p.2).map (p.1, ·)) = vs.toList.map some)
    (hf : Instr.fill (fun i => some (i * 1, 1)) ((Array.range (l * 1)).map ((if l * 1 = 0 then (#[] : Array Value) else z.cells)[· % (if l * 1 = 0 then (#[] : Array Value) else z.cells).size]!)) vs.toList = some cs) :
    EfI P s (Mm w0 L) o (fun g : Nat => .slice (some ⟨g, 0, none⟩) l l) (fun g => Mm w0 (.blk g e cs.toList :: L)) := ef_run fun a ha w hm => by
  have h1 : parts.map (fun p => (p.1, a.eval p.2)) = vs := by
    apply Array.toList_inj.1
    rw [Array.toList_map]
    generalize parts.toList = pl at hx
    generalize vs.toList = vl at hx
    clear hf
    induction pl generalizing vl with
    | nil => cases vl with
      | nil => rfl
      | cons => simp at hx
    | cons x pl ih => cases vl with
      | nil => simp at hx
      | cons v vl =>
        simp only [List.map_cons, List.cons.injEq] at hx ⊢
        obtain ⟨u, hu, rfl⟩ := Option.map_eq_some_iff.1 hx.1
        exact ⟨by rw [ha _ u hu], ih _ hx.2⟩
  refine ⟨w.heap.size, w.alloc (.cells cs e), ?_, by simpa [Mm] using Mem.add hm e cs.toList⟩
  cases hq : P.info? e with
  | none => simp [hq] at hz
  | some i =>
    have hzi : i.zero = some z := by simpa [hq] using hz
    have hsi : i.size = 1 := by simpa [hq] using ht.2
    have hlt : ¬ (16777216 < l) := by omega
    have hbs : (Instr.buildSlice t l vs).run P w = .ok (.slice (some ⟨w.heap.size, 0, none⟩) l l) (w.alloc (.cells cs e)) := by
      by_cases h0 : l * 1 = 0
      · rw [if_pos h0] at hf
        have h0' : l = 0 := by omega
        subst h0'
        simp [Instr.buildSlice, run_underlying ht.1, sizeOf, typeInfo, hq, hsi, newRow] at hf ⊢
        simp [hf]
      · rw [if_neg h0] at hf
        have h0' : ¬ l = 0 := by omega
        simp only [Nat.mul_one] at hf
        simp [Instr.buildSlice, run_underlying ht.1, sizeOf, typeInfo, hq, hsi, newRow, hlt, h0', zeroValue, hzi]
        simp [hf]
    simp only [execOp, ho, h1, Sem.run_bind, hbs, Result.andThen_ok]
    rfl
/-! append -/
theorem Mem.row {w w' : World} (h : Mem w0 w L) {i : Nat} {t : TypeId} {v v' : Value} {xs xs' : List Value} (hi : L[i]? = some (.row t v xs)) (hown : w'.ownsRow w0.heap.size t 1 v' xs'.length xs') (hg : w.grownBy w' v.ownBlock) (hat : v'.ownBlock = v.ownBlock ∨ v'.ownBlock = some w.heap.size) : Mem w0 w' (L.set i (.row t v' xs')) := by
  have hok := h.at_ hi
  refine h.turn hi (fun b _ hb hne => hg.block b hb (fun e => hne e.symm)) (h.low.grown hg h.size fun k hk => (World.ownsRow.lt hok k hk).1) hown ?_
  rcases hat with hat | hat
  · exact .inl hat
  · refine .inr fun b hb => ?_
    simp only [Own.at_] at hb
    rw [hat, Option.some.injEq] at hb
    omega
def TApp (P : Program) (t e bytes : Nat) (z : Value) : Prop := P.underlying t = some (.slice e) ∧ (P.info? e).map (fun i => (i.zero, i.size, i.bytes)) = some (some z, 1, bytes) ∧ z.cells.size = 1
/-- A slice of no cells is appended: nothing turns. -/
theorem run_append_empty {w : World} {base t ty e : Nat} {i : TypeInfo} (ht : P.underlying t = some (.slice e)) (hi : P.info? e = some i) {v : Value} {n : Nat} {xs : List Value} (hown : w.ownsRow base e 1 v n xs) (c : Nat) :
    (Builtin.append_ #[t, t] ty #[v, .slice none 0 c]).run P w = .ok v w := by
  rcases hown.2 with ⟨rfl, rfl⟩ | ⟨g, cap, cur, rfl, _, _, hnc, _⟩
  · simp [Builtin.append_, run_underlying ht, sizeOf, typeInfo, hi, Builtin.lenOf, Builtin.firstCells]
  · simp [Builtin.append_, run_underlying ht, sizeOf, typeInfo, hi, Builtin.lenOf, Builtin.firstCells, hnc, storeCells]
theorem e_app {x y : Operand} {t e bytes : Nat} {z v u : Value} {xs ys : List Value} (i : Nat) (ho : o.op = .call { callee := .builtin .append, args := #[x, y], argTypes := #[t, t] }) (ht : TApp P t e bytes z)
    (hx : ev s x = some v) (hi : L[i]? = some (.row e v xs)) (hy : ev s y = some u) (hr : RdM (Mm w0 L) u ys) (h1 : ∀ c ∈ ys, c.oneCell' = true) (hb : (xs.length + ys.length) * bytes ≤ 140737488355328) (hl : xs.length + ys.length ≤ 140737488355328) :
    EfI P s (Mm w0 L) o (fun v' : Value => v') (fun v' => Mm w0 (L.set i (.row e v' (xs ++ ys)))) := ef_run fun a ha w hm => by
  obtain ⟨ht, hinfo, hz⟩ := ht
  obtain ⟨i0, hi0, hzz⟩ := Option.map_eq_some_iff.1 hinfo
  simp only [Prod.mk.injEq] at hzz
  obtain ⟨hz0, hz1, hz2⟩ := hzz
  have e1 := ha x _ hx
  have e2 := ha y _ hy
  have hok : w.ownsRow w0.heap.size e 1 v xs.length xs := hm.at_ hi
  obtain ⟨A, c, rfl, hc, hcell⟩ := hr w hm
  have hrun : ∃ v' w', (Builtin.append_ #[t, t] o.type #[v, .slice A ys.length c]).run P w = .ok v' w' ∧ w'.ownsRow w0.heap.size e 1 v' (xs ++ ys).length (xs ++ ys) ∧ w.grownBy w' v.ownBlock ∧ (v'.ownBlock = v.ownBlock ∨ v'.ownBlock = some w.heap.size) := by
    rcases Nat.eq_zero_or_pos ys.length with h0 | h0
    · have hys : ys = [] := List.eq_nil_of_length_eq_zero h0
      subst hys
      rcases A with _ | ad
      · exact ⟨v, w, run_append_empty ht hi0 hok c, by simpa using hok, World.grownBy.refl w _, .inl rfl⟩
      · obtain ⟨v', w', hrun, h2, h3, _, h5⟩ := run_append_own_at (P := P) w w0.heap.size t o.type e i0 z 1 bytes ht hi0 hz0 hz1 hz2 hz (by omega) v xs.length xs hok ad 0 c [] rfl (by simp) (by simp) (by simp only [maxLen]; omega) (by simpa using hb) hm.size
        exact ⟨v', w', hrun, by simpa using h2, h3, h5⟩
    · obtain ⟨ad, rfl, _⟩ := hcell 0 _ (List.getElem?_eq_getElem h0)
      obtain ⟨v', w', hrun, h2, h3, _, h5⟩ := run_append_own_at (P := P) w w0.heap.size t o.type e i0 z 1 bytes ht hi0 hz0 hz1 hz2 hz (by omega) v xs.length xs hok ad ys.length c ys (by simp)
        (fun j u hu => by obtain ⟨ad', e', hcc⟩ := hcell j u hu; injection e' with e'; subst e'; exact hcc) h1 (by simp only [maxLen]; omega) hb hm.size
      exact ⟨v', w', hrun, by simpa using h2, h3, h5⟩
  obtain ⟨v', w', hrun, hown, hg, hat⟩ := hrun
  refine ⟨v', w', ?_, Mem.row hm hi hown hg hat⟩
  simp [execOp, ho, resolve, invoke, builtin, e1, e2, hrun]
/-- append(xs, s...) of a string. -/
theorem e_apps {x y : Operand} {t u e : Nat} {v : Value} {str : ByteArray} {xs : List Value} (i : Nat) (ho : o.op = .call { callee := .builtin .append, args := #[x, y], argTypes := #[t, u] }) (ht : TApp P t e 1 (.int .u8 0)) (hu : P.underlying u = some .string)
    (hx : ev s x = some v) (hi : L[i]? = some (.row e v xs)) (hy : ev s y = some (.string str)) (hl : xs.length + str.size ≤ 140737488355328) :
    EfI P s (Mm w0 L) o (fun v' : Value => v') (fun v' => Mm w0 [.row e v' (xs ++ strCells str)]) := ef_run fun a ha w hm => by
  obtain ⟨ht, hinfo, hz⟩ := ht
  obtain ⟨i0, hi0, hzz⟩ := Option.map_eq_some_iff.1 hinfo
  simp only [Prod.mk.injEq] at hzz
  obtain ⟨hz0, hz1, hz2⟩ := hzz
  have e1 := ha x _ hx
  have e2 := ha y _ hy
  have hok : w.ownsRow w0.heap.size e 1 v xs.length xs := hm.at_ hi
  obtain ⟨v', w', hrun, h2, h3, _⟩ := run_append_own_string (P := P) w w0.heap.size t u o.type e i0 ht hu hi0 hz0 hz1 hz2 v xs.length xs hok str (by simp only [maxLen]; omega) (by omega) hm.size
  refine ⟨v', w', ?_, hm.low.grown h3 hm.size (fun k hk => (World.ownsRow.lt hok k hk).1), fun z hz => ?_, List.pairwise_singleton _ _⟩
  rotate_left
  · rw [List.mem_singleton.1 hz]
    show w'.ownsRow _ _ _ _ (xs ++ strCells str).length _
    rw [List.length_append, strCells_length]
    exact h2
  simp [execOp, ho, resolve, invoke, builtin, e1, e2, hrun]
/-- A nil slice is a row of its own. -/
theorem mm_nil (t : Nat) : ∀ w, Mm w0 L w → Mm w0 (.row t (.slice none 0 0) [] :: L) w := fun w hm =>
  ⟨hm.low, fun x hx => by
    rcases List.mem_cons.1 hx with rfl | hx
    · exact World.ownsRow_nil w _ t 1
    · exact hm.ok x hx, List.pairwise_cons.2 ⟨fun y _ b hb => by simp [Own.at_, Value.ownBlock] at hb, hm.apart⟩⟩
/-- A block that was made is a row. -/
theorem mm_row {g e n : Nat} {cs xs : List Value} (i : Nat) (hi : L[i]? = some (.blk g e cs)) (hx : cs.take n = xs) (hn : n ≤ cs.length) (hc : cs.length ≤ 9223372036854775807) : ∀ w, Mm w0 L w → Mm w0 (L.set i (.row e (.slice (some ⟨g, 0, none⟩) n cs.length) xs)) w := fun w hm => by
  subst hx
  have hok := hm.at_ hi
  refine Mem.turn hm hi (fun _ _ _ _ => rfl) hm.low ?_ (.inl rfl)
  have hl : (cs.take n).length = n := by simp; omega
  refine ⟨by rw [Nat.mul_one], .inr ⟨g, cs.length, cs.toArray, by rw [hl], hok.1, hok.2, by omega, by simpa [maxLen] using hc, by simp, by rw [hl]; simp⟩⟩
/-! copy -/
theorem e_copy {x y : Operand} {t t' e g q n c : Nat} {u : Value} {cs ys cs' : List Value} (i : Nat) (ho : o.op = .call { callee := .builtin .copy, args := #[x, y], argTypes := #[t, t'] }) (ht : TSlice P t e)
    (hx : ev s x = some (.slice (some ⟨g, q, none⟩) n c)) {e' : Nat} (hi : L[i]? = some (.blk g e' cs)) (hy : ev s y = some u) (hr : RdM (Mm w0 L) u ys) (h1 : ∀ c ∈ ys, c.oneCell' = true) (hq : q + n ≤ cs.length)
    (hc' : cs.take q ++ ys.take n ++ cs.drop (q + (ys.take n).length) = cs') :
    EfI P s (Mm w0 L) o (fun _ : Unit => vi (ys.take n).length) (fun _ => Mm w0 (L.set i (.blk g e' cs'))) := ef_run fun a ha w hm => by
  subst hc'
  have e1 := ha x _ hx
  have e2 := ha y _ hy
  obtain ⟨A, c', rfl, hc, hcell⟩ := hr w hm
  have hok := hm.at_ hi
  rcases Nat.eq_zero_or_pos ys.length with h0 | h0
  · have hys : ys = [] := List.eq_nil_of_length_eq_zero h0
    subst hys
    have hcs : cs.take q ++ ([] : List Value).take n ++ cs.drop (q + (([] : List Value).take n).length) = cs := by simp
    refine ⟨(), w, ?_, ?_⟩
    · have hsz := ht.2
      cases hqi : P.info? e with
      | none => simp [hqi] at hsz
      | some i0 =>
        cases A with
        | none => simp [execOp, ho, resolve, invoke, builtin, e1, e2, Builtin.copy_, run_underlying ht.1, Builtin.lenOf, Builtin.firstCells, sizeOf, typeInfo, hqi, storeCells, goInt]
        | some ad => simp [execOp, ho, resolve, invoke, builtin, e1, e2, Builtin.copy_, run_underlying ht.1, Builtin.lenOf, Builtin.firstCells, sizeOf, typeInfo, hqi, storeCells, goInt, loadCells, loadCellsFrom]
    · rw [hcs]
      exact Mem.mm hm (by
        obtain ⟨hli, e⟩ := List.getElem?_eq_some_iff.1 hi
        rw [← e]; simp)
  · obtain ⟨ad, rfl, _⟩ := hcell 0 _ (List.getElem?_eq_getElem h0)
    have hlt : (ys.take n).length = Nat.min ys.length n := by simp [Nat.min_comm]
    have hrun := run_copy_row (P := P) w t t' o.type e g q n c ad ys.length c' cs.toArray e' (ys.take n) ht.1 ht.2 hok.2 hlt
      (fun j v hv => by
        have hj : j < n := by have := (List.getElem?_eq_some_iff.1 hv).1; simp at this; omega
        rw [List.getElem?_take, if_pos hj] at hv
        obtain ⟨ad', e', hcc⟩ := hcell j v hv
        injection e' with e'
        subst e'
        exact hcc) (by simp; omega) (fun v hv => h1 v (List.mem_of_mem_take hv))
    refine ⟨(), _, ?_, Mem.stored hm hi⟩
    simp only [execOp, ho, resolve, invoke, builtin, List.map_toArray, List.map_cons, List.map_nil, e1, e2, Sem.run_bind, Sem.run_pure, Result.andThen_ok, hrun, goInt]
/-! calls -/
def IsFn (P : Program) (f : Nat) : Prop := ∃ fn, P.funcs[f]? = some fn ∧ (fn.name == "runtime.NumGoroutine") = false ∧ fn.body.isNone = false
theorem IsFn.run {f : Nat} (h : IsFn P f) (args : Array Value) (w : World) : (callFunc f args).run P w = .ok (.enter f args) w := by
  obtain ⟨fn, h1, h2, h3⟩ := h
  unfold callFunc
  simp only [Sem.run_bind, run_program, Result.andThen_ok, h1, h2, h3, Bool.false_eq_true, if_false]
  rfl
/-- What a call does, told of whatever M. -/
def CtM (P : Program) (f : Nat) (args : Array Value) (w : World) {ι : Type} (g : ι → Value) (R : ι → As) : Prop := Calls P f args w fun e w' => ∃ y, e = .returned (g y) ∧ R y w'
/-- The contract of a function: what it gives back, and what it made. -/
def Ct (P : Program) (f : Nat) (args : Array Value) (w : World) {ι : Type} (g : ι → Value) (R : ι → List Own) : Prop := CtM P f args w g fun y w' => Mem w w' (R y)
theorem e_callM {f : Nat} {c : Operand} {xs : Array Operand} {ats : Array TypeId} {args caps : Array Value} {ι : Type} {g : ι → Value} {R : ι → As} (ho : o.op = .call { callee := .value c, args := xs, argTypes := ats }) (hf : IsFn P f)
    (hc : ev s c = some (.func (.func f) #[] caps)) (h : ∀ w, M w → CtM P f args w g R) (hx : xs.toList.map (ev s) ++ caps.toList.map some = args.toList.map some) : EfI P s M o g R := fun a ha w hm K Q hk => by
  have h1 : xs.map a.eval ++ caps = args := by
    apply Array.toList_inj.1
    rw [Array.toList_append, Array.toList_map]
    generalize xs.toList = l at hx
    generalize args.toList = l' at hx
    generalize caps.toList = cl at hx
    induction l generalizing l' with
    | nil =>
      have hi : Function.Injective (some : Value → Option Value) := fun _ _ e => Option.some.inj e
      exact (List.map_inj_right (fun _ _ e => hi e)).1 (by simpa using hx)
    | cons x l ih => cases l' with
      | nil => simp at hx
      | cons v l' =>
        simp only [List.map_cons, List.cons_append, List.cons.injEq] at hx ⊢
        exact ⟨ha x v hx.1, ih _ hx.2⟩
  have h2 := ha c _ hc
  unfold Oper.wp
  have hr : (execOp a.eval o).run P w = .ok (.enter f args) w := by
    simp only [execOp, ho, resolve, h2, Deferred.ofValue, Sem.run_bind, Sem.run_pure, Result.andThen_ok, invoke, Array.empty_append, h1]
    rw [hf.run]
  rw [hr, Oper.upon_enter]
  refine (h w hm).mono fun e w' => ?_
  rintro ⟨y, rfl, hy⟩
  exact hk y w' hy
theorem e_call {f : Nat} {c : Operand} {xs : Array Operand} {ats : Array TypeId} {vs : Array Value} {ι : Type} {g : ι → Value} {R : ι → List Own} (ho : o.op = .call { callee := .value c, args := xs, argTypes := ats }) (hf : IsFn P f)
    (hc : ev s c = some (.func (.func f) #[] #[])) (h : ∀ w, Mm w0 L w → Ct P f vs w g R) (hx : xs.toList.map (ev s) = vs.toList.map some) : EfI P s (Mm w0 L) o g (fun y => Mm w0 (R y ++ L)) :=
  e_callM ho hf hc (fun w hm => (h w hm).mono fun e w' ⟨y, he, hy⟩ => ⟨y, he, Mem.frame hm hy⟩) (by simpa using hx)
/-- The contract of a function that makes nothing which its caller sees. -/
def Ct0 (P : Program) (f : Nat) (args : Array Value) (w : World) (v : Value) : Prop := Ct P f args w (fun _ : Unit => v) (fun _ => [])
theorem e_call0 {f : Nat} {c : Operand} {xs : Array Operand} {ats : Array TypeId} {vs : Array Value} {v : Value} (ho : o.op = .call { callee := .value c, args := xs, argTypes := ats }) (hf : IsFn P f)
    (hc : ev s c = some (.func (.func f) #[] #[])) (h : ∀ w, Mm w0 L w → Ct0 P f vs w v) (hx : xs.toList.map (ev s) = vs.toList.map some) : EfI P s (Mm w0 L) o (fun _ : Unit => v) (fun _ => Mm w0 L) := e_call ho hf hc h hx
end

/-! The head of a function, and its end. -/
section
variable {P : Program}
def tab0 : Nat → List Value → Sl
  | _, [] => []
  | i, v :: vs => (i, v) :: tab0 (i + 1) vs
theorem lk_tab0 : ∀ (vs : List Value) (i k : Nat) (v : Value), lk (tab0 i vs) k = some v → ∃ j, k = i + j ∧ vs[j]? = some v
  | [], _, _, _, h => by simp [tab0, lk] at h
  | u :: vs, i, k, v, h => by
    simp only [tab0, lk] at h
    cases hb : Nat.beq i k with
    | true =>
      rw [hb] at h
      have := Nat.eq_of_beq_eq_true hb
      exact ⟨0, by omega, by simpa using h⟩
    | false =>
      rw [hb] at h
      obtain ⟨j, rfl, hj⟩ := lk_tab0 vs (i + 1) k v h
      exact ⟨j + 1, by omega, by simpa using hj⟩
theorem ctM_of {f : Nat} {fn : Func} {c : Code} {args : Array Value} {w : World} {ι : Type} {g : ι → Value} {R : ι → As} {M : As} {m : Nat} (hf : P.funcs[f]? = some fn) (hb : fn.body = some c) (hm : fn.ntmps = m) (hn : Nat.ble args.size m = true) (hM : M w)
    (h : HC P c (bodyPost P fn (fun e w' => ∃ y, e = .returned (g y) ∧ R y w')) ⟨m, []⟩ (tab0 0 args.toList) M) : CtM P f args w g R := by
  subst hm
  have hn := Nat.le_of_ble_eq_true hn
  refine calls_of_wp hf hb (h _ w ⟨?_, rfl, fun k v hk => ?_⟩ hM)
  · simp; omega
  · obtain ⟨j, rfl, hj⟩ := lk_tab0 _ _ _ _ hk
    have hlt : j < args.size := by have := (List.getElem?_eq_some_iff.1 hj).1; simpa using this
    simp only [Nat.zero_add]
    rw [Array.getElem?_append_left hlt]
    simpa using hj
theorem ct_of {f : Nat} {fn : Func} {c : Code} {args : Array Value} {w : World} {ι : Type} {g : ι → Value} {R : ι → List Own} {m : Nat} (hf : P.funcs[f]? = some fn) (hb : fn.body = some c) (hm : fn.ntmps = m) (hn : Nat.ble args.size m = true)
    (h : HC P c (bodyPost P fn (fun e w' => ∃ y, e = .returned (g y) ∧ Mm w (R y) w')) ⟨m, []⟩ (tab0 0 args.toList) (Mm w [])) : Ct P f args w g R := ctM_of hf hb hm hn (Mem.nil w) h
theorem ct0_of {f : Nat} {fn : Func} {c : Code} {args : Array Value} {w : World} {v : Value} {m : Nat} (hf : P.funcs[f]? = some fn) (hb : fn.body = some c) (hm : fn.ntmps = m) (hn : Nat.ble args.size m = true)
    (h : HC P c (bodyPost P fn (fun e w' => ∃ _ : Unit, e = .returned v ∧ Mm w [] w')) ⟨m, []⟩ (tab0 0 args.toList) (Mm w [])) : Ct0 P f args w v := ctM_of hf hb hm hn (Mem.nil w) h
/-- What a result's place holds. -/
def rvF (tmps : Array Value) : ResultVar → Sem Value
  | .tmp t => pure (tmps.getD t undef)
  | .cell p t => do loadVar t (← asAddr (tmps.getD p undef))
theorem results_eq (fn : Func) (tmps : Array Value) : results fn tmps = (do
    let vs ← fn.results.mapM (rvF tmps)
    pure (if h : vs.size = 1 then vs[0] else .tuple vs)) := by
  unfold results
  congr 2
def RV (P : Program) (s : Sl) (M : As) (r : ResultVar) (v : Value) : Prop := ∀ a : Act, (∀ k u, lk s k = some u → a.tmps[k]? = some u) → ∀ w, M w → (rvF a.tmps r).run P w = .ok v w
theorem rv_tmp {s : Sl} {M : As} {t : Nat} {v : Value} (h : lk s t = some v) : RV P s M (.tmp t) v := fun a ha w _ => by
  have := ha t v h
  simp [rvF, this]
theorem rv_arr {s : Sl} {w0 : World} {L : List Own} {p t g n e m e' : Nat} {cs : List Value} (i : Nat) (h : lk s p = some (.pointer (some ⟨g, 0, none⟩))) (ht : TArr P t n e m) (hi : L[i]? = some (.blk g e' cs)) (hm : m = cs.length) : RV P s (Mm w0 L) (.cell p t) (.agg cs.toArray) := fun a ha w hw => by
  have h1 := ha p _ h
  have h2 := run_loadVar_row (P := P) w g e' t cs.toArray (0, 0) (.array n e) (hw.at_ hi).2 ht.1 rfl (by rw [ht.2, hm]; simp)
  simp [rvF, h1, asAddr, h2]
theorem rv_one {s : Sl} {w0 : World} {L : List Own} {p t g e' : Nat} {cs : List Value} {u : Value} (i : Nat) (h : lk s p = some (.pointer (some ⟨g, 0, none⟩))) (ht : TOne P t) (hi : L[i]? = some (.blk g e' cs)) (hu : cs[0]? = some u) : RV P s (Mm w0 L) (.cell p t) u := fun a ha w hw => by
  have h1 := ha p _ h
  have h2 : w.cell? ⟨g, 0, none⟩ = some u := by
    rw [cell_of_row w g 0 cs.toArray e' (0, 0) (hw.at_ hi).2]
    simpa using hu
  simp [rvF, h1, asAddr, loadVar, ht.run_isAgg, h2]
variable {n : Nat} {s : Sl} {M : As} {fn : Func} {ι : Type} {g : ι → Value} {R : ι → As}
theorem hq_ret1 {r : ResultVar} {v : Value} (y : ι) (hr : fn.results = #[r]) (h : RV P s M r v) (hv : v = g y) (hM : ∀ w, M w → R y w) : HQ (bodyPost P fn (fun e w' => ∃ y, e = .returned (g y) ∧ R y w')) .ret ⟨n, []⟩ s M := fun a w hf hm => by
  refine ⟨hf.defers, v, ?_, y, by rw [hv], hM w hm⟩
  have h1 := h a (fun k u hk => hf.get k u hk) w hm
  simp [results_eq, hr, h1]
theorem hq_ret2 {r1 r2 : ResultVar} {v1 v2 : Value} (y : ι) (hr : fn.results = #[r1, r2]) (h1 : RV P s M r1 v1) (h2 : RV P s M r2 v2) (hv : .tuple #[v1, v2] = g y) (hM : ∀ w, M w → R y w) : HQ (bodyPost P fn (fun e w' => ∃ y, e = .returned (g y) ∧ R y w')) .ret ⟨n, []⟩ s M := fun a w hf hm => by
  refine ⟨hf.defers, .tuple #[v1, v2], ?_, y, by rw [hv], hM w hm⟩
  have e1 := h1 a (fun k u hk => hf.get k u hk) w hm
  have e2 := h2 a (fun k u hk => hf.get k u hk) w hm
  simp [results_eq, hr, e1, e2]
theorem hq_ret3 {r1 r2 r3 : ResultVar} {v1 v2 v3 : Value} (y : ι) (hr : fn.results = #[r1, r2, r3]) (h1 : RV P s M r1 v1) (h2 : RV P s M r2 v2) (h3 : RV P s M r3 v3) (hv : .tuple #[v1, v2, v3] = g y) (hM : ∀ w, M w → R y w) : HQ (bodyPost P fn (fun e w' => ∃ y, e = .returned (g y) ∧ R y w')) .ret ⟨n, []⟩ s M := fun a w hf hm => by
  refine ⟨hf.defers, .tuple #[v1, v2, v3], ?_, y, by rw [hv], hM w hm⟩
  have e1 := h1 a (fun k u hk => hf.get k u hk) w hm
  have e2 := h2 a (fun k u hk => hf.get k u hk) w hm
  have e3 := h3 a (fun k u hk => hf.get k u hk) w hm
  simp [results_eq, hr, e1, e2, e3]
end

theorem Mm.pick {w0 w : World} {L : List Own} (h : Mm w0 L w) (is : List Nat) (hn : is.Nodup) : Mm w0 (is.filterMap (L[·]?)) w := Mem.pick h is hn
theorem Mm.mm {w0 w : World} {L L' : List Own} (h : Mm w0 L w) (e : L = L') : Mm w0 L' w := e ▸ h
theorem Mm.set {w0 w : World} {L : List Own} (h : Mm w0 L w) (i : Nat) {g t : Nat} {cs cs' : List Value} (hi : L[i]? = some (.blk g t cs)) (e : cs = cs') : Mm w0 (L.set i (.blk g t cs')) w := by
  subst e
  obtain ⟨hl, hx⟩ := List.getElem?_eq_some_iff.1 hi
  rw [← hx, List.set_getElem_self]
  exact h
theorem Mm.setr {w0 w : World} {L : List Own} (h : Mm w0 L w) (i : Nat) {v : Value} {t : Nat} {xs xs' : List Value} (hi : L[i]? = some (.row t v xs)) (e : xs = xs') : Mm w0 (L.set i (.row t v xs')) w := by
  subst e
  obtain ⟨hl, hx⟩ := List.getElem?_eq_some_iff.1 hi
  rw [← hx, List.set_getElem_self]
  exact h
theorem Mm.out {w0 w : World} {L : List Own} (h : Mm w0 L w) : Mem w0 w L := h
theorem Mem.mk_ {w0 w : World} {L : List Own} (h : Mem w0 w L) : Mm w0 L w := h
/-! A region that draws its order. -/
section
variable {P : Program} {n : Fz} {s : Sl} {M S : As} {Q : Exit → Act → World → Prop} {ops : Array Oper} {fuel : Nat} {listed : Array Bool}
def NoP (Q : Exit → Act → World → Prop) : Exit → Act → World → Prop
  | .panic _, _, _ => False
  | e, a, w => Q e a w
def HH (P : Program) (ops : Array Oper) (Q : Exit → Act → World → Prop) (S : As) (fuel : Nat) (listed : Array Bool) (n : Fz) (s : Sl) (M : As) : Prop := ∀ a w, Fr n s a → M w → wpAnyH P .any ops (NoP Q) S fuel listed a w
theorem hc_draw {id : Nat} {w0 : World} {L : List Own} (S : As) (hp : P.follows .mixedOrders = true) (h : HH P ops Q S ops.size (Array.replicate ops.size false) n s (Mm w0 L)) : HC P (.region id ops true) Q n s (Mm w0 L) := fun a w hf hm =>
  Code.wp_mono (fun e a w h => by cases e <;> first | exact h | exact (h : False).elim) (wp_region_held (S := S) hp (h a _ hf (Mem.drew hm)))
theorem hc_drawP {id : Nat} {w0 : World} {L : List Own} (is : List Nat) (hp : P.follows .mixedOrders = true) (h : HH P ops Q (Mm w0 (is.filterMap (L[·]?))) ops.size (Array.replicate ops.size false) n s (Mm w0 L)) : HC P (.region id ops true) Q n s (Mm w0 L) := hc_draw _ hp h
theorem hh_done (hr : Region.ready .any ops listed = []) (h : HQ Q .normal n s M) : HH P ops Q S fuel listed n s M := fun a w hf hm => wpAnyH_done (Q := NoP Q) hr (h a w hf hm : _) fuel
theorem hh_y {o : Oper} {v : Value} {d : Nat} (i : Nat) (hi : ops[i]? = some o) (hg : o.guard = none) (hd : o.dst = some d) (hn : Nat.blt d n.n = true) (hs : Region.noSelect ops = true) (hf : Region.free .any ops listed i = true) (hr : (Region.ready .any ops listed).contains i = true)
    (hMS : ∀ w, M w → S w) (hy : Yl P s S o v) (h : HH P ops Q S fuel (listed.setIfInBounds i true) n ((d, v) :: s) M) : HH P ops Q S (fuel + 1) listed n s M := fun a w hfr hm =>
  wpAnyH_take hi hs hf hr (fun _ _ _ h => h) (Or.inl ⟨by simp [Region.wanted, hg], fun w hS => hy a (fun x u hx => hfr.eval hx) w hS⟩) (hMS w hm) (by rw [hd]; exact h _ w (hfr.put hn v) hm)
theorem hh_yg {o : Oper} {v : Value} {d : Nat} (i j t : Nat) (b : Bool) (hi : ops[i]? = some o) (hg : o.guard = some (j, b)) (hj : (ops[j]?).bind (·.dst) = some t) (hb : lk s t = some (.bool b)) (hd : o.dst = some d) (hn : Nat.blt d n.n = true) (hs : Region.noSelect ops = true) (hf : Region.free .any ops listed i = true) (hr : (Region.ready .any ops listed).contains i = true)
    (hMS : ∀ w, M w → S w) (hy : Yl P s S o v) (h : HH P ops Q S fuel (listed.setIfInBounds i true) n ((d, v) :: s) M) : HH P ops Q S (fuel + 1) listed n s M := fun a w hfr hm =>
  wpAnyH_take hi hs hf hr (fun _ _ _ h => h) (Or.inl ⟨by rw [wanted_of hfr hg hj hb]; simp, fun w hS => hy a (fun x u hx => hfr.eval hx) w hS⟩) (hMS w hm) (by rw [hd]; exact h _ w (hfr.put hn v) hm)
theorem hh_no {o : Oper} {d : Nat} (i j t : Nat) (b c : Bool) (hi : ops[i]? = some o) (hg : o.guard = some (j, b)) (hj : (ops[j]?).bind (·.dst) = some t) (hb : lk s t = some (.bool c)) (hbc : (c == b) = false) (hd : o.dst = some d) (hn : Nat.blt d n.n = true) (hs : Region.noSelect ops = true) (hf : Region.free .any ops listed i = true) (hr : (Region.ready .any ops listed).contains i = true)
    (hMS : ∀ w, M w → S w) (h : HH P ops Q S fuel (listed.setIfInBounds i true) n ((d, undef) :: s) M) : HH P ops Q S (fuel + 1) listed n s M := fun a w hfr hm =>
  wpAnyH_take hi hs hf hr (fun _ _ _ h => h) (Or.inr ⟨by rw [wanted_of hfr hg hj hb]; exact hbc, rfl⟩) (hMS w hm) (by rw [hd]; exact h _ w (hfr.put hn undef) hm)
/-- The next one that may come up acts; it is the only one. -/
theorem hh_i {o : Oper} {ι : Type} {f : ι → Value} {R : ι → As} {d : Nat} (i : Nat) (hi : ops[i]? = some o) (hg : o.guard = none) (hd : o.dst = some d) (hn : Nat.blt d n.n = true) (hr : Region.ready .any ops listed = [i])
    (he : EfI P s M o f R) (hRS : ∀ y w, R y w → S w) (h : ∀ y, HH P ops Q S fuel (listed.setIfInBounds i true) n ((d, f y) :: s) (R y)) : HH P ops Q S (fuel + 1) listed n s M := fun a w hfr hm =>
  wpAnyH_all hr (by simp) fun j hj => by
    obtain rfl : j = i := by simpa using hj
    unfold wpOp
    simp only [hi]
    rw [if_pos (by simp [Region.wanted, hg])]
    exact .inl (he a (fun x u hx => hfr.eval hx) w hm _ _ fun y w' hy => by rw [hd]; exact ⟨hRS y w' hy, h y _ w' (hfr.put hn (f y)) hy⟩)
theorem hh_i0 {o : Oper} {ι : Type} {f : ι → Value} {R : ι → As} (i : Nat) (hi : ops[i]? = some o) (hg : o.guard = none) (hd : o.dst = none) (hr : Region.ready .any ops listed = [i])
    (he : EfI P s M o f R) (hRS : ∀ y w, R y w → S w) (h : ∀ y, HH P ops Q S fuel (listed.setIfInBounds i true) n s (R y)) : HH P ops Q S (fuel + 1) listed n s M := fun a w hfr hm =>
  wpAnyH_all hr (by simp) fun j hj => by
    obtain rfl : j = i := by simpa using hj
    unfold wpOp
    simp only [hi]
    rw [if_pos (by simp [Region.wanted, hg])]
    exact .inl (he a (fun x u hx => hfr.eval hx) w hm _ _ fun y w' hy => by rw [hd]; exact ⟨hRS y w' hy, h y _ w' hfr hy⟩)
theorem hh_ig {o : Oper} {ι : Type} {f : ι → Value} {R : ι → As} {d : Nat} (i j t : Nat) (b : Bool) (hi : ops[i]? = some o) (hg : o.guard = some (j, b)) (hj : (ops[j]?).bind (·.dst) = some t) (hb : lk s t = some (.bool b)) (hd : o.dst = some d) (hn : Nat.blt d n.n = true) (hr : Region.ready .any ops listed = [i])
    (he : EfI P s M o f R) (hRS : ∀ y w, R y w → S w) (h : ∀ y, HH P ops Q S fuel (listed.setIfInBounds i true) n ((d, f y) :: s) (R y)) : HH P ops Q S (fuel + 1) listed n s M := fun a w hfr hm =>
  wpAnyH_all hr (by simp) fun k hk => by
    obtain rfl : k = i := by simpa using hk
    unfold wpOp
    simp only [hi]
    rw [if_pos (by rw [wanted_of hfr hg hj hb]; simp)]
    exact .inl (he a (fun x u hx => hfr.eval hx) w hm _ _ fun y w' hy => by rw [hd]; exact ⟨hRS y w' hy, h y _ w' (hfr.put hn (f y)) hy⟩)
/-- Two may come up: either of them first. -/
theorem hh_two {i j : Nat} (hr : Region.ready .any ops listed = [i, j]) (hi : ∀ a w, Fr n s a → M w → wpOp P ops (NoP Q) i (fun a' w' => S w' ∧ wpAnyH P .any ops (NoP Q) S fuel (listed.setIfInBounds i true) a' w') a w)
    (hj : ∀ a w, Fr n s a → M w → wpOp P ops (NoP Q) j (fun a' w' => S w' ∧ wpAnyH P .any ops (NoP Q) S fuel (listed.setIfInBounds j true) a' w') a w) : HH P ops Q S (fuel + 1) listed n s M := fun a w hfr hm =>
  wpAnyH_all hr (by simp) fun k hk => by
    simp only [List.mem_cons, List.not_mem_nil, or_false] at hk
    rcases hk with rfl | rfl
    · exact hi a w hfr hm
    · exact hj a w hfr hm
end
end Go.Proofs.YtcdidapkpfnphaaDoor
