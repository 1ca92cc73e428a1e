/- Words of my own: a range over a function. What a round's code does, the iterator's side, the caller's side. -/
import Derived.Test.YtcdidapkpfnphaaDoorLibI
import Derived.RangeFuncLeaves
import Derived.RangeFuncCalls
import Derived.RangeFuncFrom
namespace Go.Proofs.YtcdidapkpfnphaaDoor
open Go.RowKit
/-! Objects that are no cells. -/
theorem Mem.addo {w0 w : World} {L : List Own} (h : Mem w0 w L) (o : Obj) : Mem w0 (w.alloc o) (.obj w.heap.size o :: L) := by
  refine ⟨h.low.alloc h.size _, fun x hx => ?_, List.pairwise_cons.2 ⟨fun y hy b hb => ?_, h.apart⟩⟩
  · rcases List.mem_cons.1 hx with rfl | hx
    · exact ⟨h.size, World.alloc_heap_new w _⟩
    · exact Own.ok_keep (h.ok x hx) fun b hb => Below.heap_alloc w _ b (Own.ok_lt (h.ok x hx) hb).2
  · simp only [Own.at_, Option.some.injEq] at hb
    subst hb
    intro hy'
    have := ((Own.ok_lt (h.ok y hy)) hy').2
    omega
theorem Mem.puto {w0 w : World} {L : List Own} (h : Mem w0 w L) {i g : Nat} {o : Obj} (o' : Obj) (hi : L[i]? = some (.obj g o)) : Mem w0 (w.putObj g o') (L.set i (.obj g o')) := by
  have hok := h.at_ hi
  refine h.turn hi (fun b h0 h1 hne => World.putObj_heap_other (fun e => hne (by rw [e]; rfl))) ?_ ⟨hok.1, World.putObj_heap_same (Array.getElem?_eq_some_iff.1 hok.2).1⟩ (.inl rfl)
  exact h.low.grown (grownBy_putObj' w g o') h.size fun k e => by cases e; exact hok.1
section
variable {P : Program} {n : Fz} {s : Sl} {M : As} {Q Q' : Exit → Act → World → Prop} {r : Nat}
/-! A round's code: what is carried out outside a round is carried out in one, but for 'defer'. -/
def noDefer (l : List Oper) : Bool := l.all fun o => match o.op with | .defer _ => false | _ => true
theorem noDefer_of {l : List Oper} (h : noDefer l = true) {o : Oper} (ho : o ∈ l) (c) : o.op ≠ .defer c := fun e => by
  have := List.all_eq_true.1 h o ho
  rw [e] at this
  cases this
theorem upon_in {o : Oper} {a : Act} {K K' : Act → World → Prop} (hK : ∀ a w, K a w → K' a w) (res : Result Next) (h : o.upon P a K Q res) : o.uponIn (Fence.wide.inRound r) 0 P a K' Q res := by
  cases res with
  | ok nx w =>
    cases nx with
    | value v => exact hK _ _ h
    | skip => exact hK _ _ h
    | defer d => exact hK _ _ h
    | enter f args =>
      refine ⟨fun h => (by cases h), ?_⟩
      refine CallsIn.inRound r (callsIn_wide.2 (Calls.mono h fun e w'' he => ?_))
      cases e with
      | returned v => exact hK _ _ he
      | panicked ch => exact he
      | outgrown => exact he
    | row row args =>
      refine ⟨fun h => (by cases h), fun c cs _ => ?_⟩
      obtain ⟨v, w', hr, hs⟩ := h c cs
      exact ⟨v, w', hK _ _ hr, stepsIn_wide.2 hs⟩
    | _ => exact h.elim
  | halt x w =>
    cases x with
    | panic v => exact h
    | _ => exact h.elim
theorem opwp_in {o : Oper} {a : Act} {w : World} {K K' : Act → World → Prop} (hK : ∀ a w, K a w → K' a w) (hd : ∀ c, o.op ≠ .defer c) (h : o.wp P a w K Q) : o.wpIn (Fence.wide.inRound r) 0 P a w K' Q := by
  refine ⟨fun _ _ => trivial, ?_⟩
  rw [Oper.semAt_eq _ _ _ hd]
  exact upon_in hK _ h
theorem wpOps_in {ops : Array Oper} (hQ : ¬ LetsOut Q) (hd : noDefer ops.toList = true) : ∀ (is : List Nat) (a : Act) (w : World), wpOps P ops Q is a w → wpOpsIn (Fence.wide.inRound r) 0 P ops Q is a w
  | [], _, _, h => h
  | i :: rest, a, w, h => by
    rw [wpOps_cons] at h
    unfold wpOpsIn
    unfold wpOp at h
    cases ho : ops[i]? with
    | none =>
      rw [ho] at h
      exact wpOps_in hQ hd rest a w h
    | some o =>
      rw [ho] at h
      simp only at h ⊢
      split
      · rename_i hw
        rw [if_pos hw] at h
        rcases h with h | h
        · exact opwp_in (wpOps_in hQ hd rest) (noDefer_of hd (by have := Array.getElem?_eq_some_iff.1 ho; obtain ⟨hlt, e⟩ := this; rw [← e]; simp)) h
        · exact (hQ h.2).elim
      · rename_i hw
        rw [if_neg hw] at h
        exact ⟨fun _ _ => trivial, wpOps_in hQ hd rest _ w h⟩
def HW (r : Nat) (P : Program) (c : Code) (Q : Exit → Act → World → Prop) (n : Fz) (s : Sl) (M : As) : Prop := ∀ a w, Fr n s a → M w → c.wpIn (Fence.wide.inRound r) 0 P Q a w
theorem hw_block {i : Nat} {c : Code} (h : HW r P c (Exit.inBlock i Q) n s M) : HW r P (.block i c) Q n s M := fun a w hf hm => wpIn_block (h a w hf hm)
theorem hw_seq {x y : Code} (h : HW r P x (Exit.then (y.wpIn (Fence.wide.inRound r) 0 P Q) Q) n s M) : HW r P (.seq x y) Q n s M := fun a w hf hm => wpIn_seq (h a w hf hm)
theorem hw_then {y : Code} (h : HW r P y Q' n s M) : HQ (Exit.then (y.wpIn (Fence.wide.inRound r) 0 P Q') Q') .normal n s M := h
theorem hw_region {i : Nat} {l : List Oper} (hQ : ¬ LetsOut Q) (hd : noDefer l = true) (h : HL P l.toArray Q l n s M) : HW r P (.region i l.toArray false) Q n s M := fun a w hf hm => by
  refine wpIn_region (wpOps_in hQ (by simpa using hd) _ a w ?_)
  have h1 := h a w hf hm
  rw [List.range_eq_range', show l.toArray.size = l.length by simp, wpOps_eq_wpList (ops := l.toArray) l 0 (by simp)]
  exact h1
theorem hw_draw {id : Nat} {ops : Array Oper} {w0 : World} {L : List Own} (is : List Nat) (hp : P.follows .mixedOrders = true) (hQ : ¬ LetsOut Q) (hd : noDefer ops.toList = true)
    (h : HH P ops Q (Mm w0 (is.filterMap (L[·]?))) ops.size (Array.replicate ops.size false) n s (Mm w0 L)) : HW r P (.region id ops true) Q n s (Mm w0 L) := fun a w hf hm => by
  refine wpIn_mono (Q := NoP Q) ?_ (fun e a w h => by cases e <;> first | exact h | exact (h : False).elim)
  refine wpIn_region_draw fun t => ?_
  simp only [Region.schedule, hp, Bool.true_or, if_true]
  have h1 := wpAny_sound ops.size t _ a _ (wpAny_of_held _ _ _ _ (h a { w with drawn := w.drawn + 1 } hf (Mem.drew hm)))
  have hQ' : ¬ LetsOut (NoP Q) := fun ⟨a, w, h⟩ => hQ ⟨a, w, h⟩
  exact wpOps_in hQ' hd _ a _ h1
/-! The iterator's side: a region that calls yield, walked at the wide fence. -/
def HY (P : Program) (ops : Array Oper) (Q : Exit → Act → World → Prop) (l : List Oper) (n : Fz) (s : Sl) (M : As) : Prop := ∀ a w, Fr n s a → M w → wpListIn Fence.wide 0 P ops Q l a w
theorem hc_regiony {i : Nat} {l : List Oper} (h : HY P l.toArray Q l n s M) : HC P (.region i l.toArray false) Q n s M := fun a w hf hm => (wpIn_wide (n := 0)).1 (wpIn_region_lit (h a w hf hm))
theorem hy_nil {ops : Array Oper} (h : HQ Q .normal n s M) : HY P ops Q [] n s M := h
theorem hy_y {ops : Array Oper} {o : Oper} {rest : List Oper} {v : Value} {d : Nat} (hg : o.guard = none) (hd : o.dst = some d) (hn : Nat.blt d n.n = true) (hnd : noDefer [o] = true)
    (hy : Yl P s M o v) (h : HY P ops Q rest n ((d, v) :: s) M) : HY P ops Q (o :: rest) n s M := fun a w hf hm =>
  wpListIn_plain hg fun K hK => by
    refine ⟨fun _ _ => trivial, ?_⟩
    rw [Oper.semAt_eq _ _ _ (noDefer_of hnd (by simp)), hy a (fun x u hx => hf.eval hx) w hm, Oper.uponIn_value, hd]
    exact hK _ _ (h _ w (hf.put hn v) hm)
theorem hy_yield {ops : Array Oper} {o : Oper} {rest : List Oper} {c x : Operand} {ats : Array TypeId} {u : Value} {d : Nat} {M' : As} (ho : o.op = .call { callee := .value c, args := #[x], argTypes := ats }) (hg : o.guard = none) (hd : o.dst = some d) (hn : Nat.blt d n.n = true)
    (hc : ev s c = some (.func (.yield r) #[] #[])) (hx : ev s x = some u) (hy : ∀ W, M W → YieldAt Fence.wide 0 P r #[u] W fun e W' => e = .returned (.bool true) ∧ M' W') (h : HY P ops Q rest n ((d, .bool true) :: s) M') : HY P ops Q (o :: rest) n s M := fun a w hf hm =>
  wpListIn_plain hg fun K hK => by
    refine ⟨fun _ _ => trivial, ?_⟩
    have h1 := hf.eval hc
    have h2 := hf.eval hx
    obtain ⟨fn, tmps, assign, body, e1, e2⟩ := hy w hm
    have hr : (execOp a.eval o).run P w = .ok (.round r fn tmps assign body) w := by
      simp only [execOp, ho, resolve, h1, h2, Deferred.ofValue, Sem.run_bind, Sem.run_pure, Result.andThen_ok, invoke, Array.empty_append, List.map_toArray, List.map_cons, List.map_nil, List.append_toArray, List.append_nil]
      exact e1
    rw [Oper.semAt_eq _ _ _ (fun c e => by rw [ho] at e; cases e), hr, Oper.uponIn_round]
    refine ⟨fun h => (by cases h), e2.mono fun e W' => ?_⟩
    rintro ⟨rfl, hM'⟩
    rw [hd]
    exact hK _ _ (h _ W' (hf.put hn _) hM')
end
/-! The caller's side. -/
def RQ (R : As) : Exit → Act → World → Prop := Exit.then (fun _ w => R w) (fun _ _ _ => False)
theorem rq_no {R : As} : ¬ LetsOut (RQ R) := fun ⟨_, _, h⟩ => h
theorem rq_block {i : Nat} {Q : Exit → Act → World → Prop} (h : ¬ LetsOut Q) : ¬ LetsOut (Exit.inBlock i Q) := fun ⟨a, w, h'⟩ => h ⟨a, w, h'⟩
theorem rq_then {K : Act → World → Prop} {Q : Exit → Act → World → Prop} (h : ¬ LetsOut Q) : ¬ LetsOut (Exit.then K Q) := fun ⟨a, w, h'⟩ => h ⟨a, w, h'⟩
theorem hq_rq {R : As} {n : Fz} {s : Sl} {M : As} (h : ∀ w, M w → R w) : HQ (RQ R) .normal n s M := fun _ w _ hm => h w hm
/-- What the assignment ahead of a round comes to. -/
def AQ (n : Fz) (s : Sl) (M : As) : Exit → Act → World → Prop := Exit.then (fun a w => Fr n s a ∧ M w) (fun _ _ _ => False)
theorem hq_aq {n : Fz} {s s' : Sl} {M : As} (hs : Sub s' s) : HQ (AQ n s' M) .normal n s M := fun _ _ hf hm => ⟨hf.sub hs, hm⟩
theorem aq_no {n : Fz} {s : Sl} {M : As} : ¬ LetsOut (AQ n s M) := fun ⟨_, _, h⟩ => h
/-- The iterator's contract: it hands over enc x for each x in order, whatever the rounds keep of memory as they say. -/
def Itr (P : Program) (gf : Nat) (lb : Array Value) (w0 : World) {N : Nat} (enc : Fin N → Value) {ι : Type} (LL : List (Fin N) → ι → List Own) (y0 : ι) : Prop :=
  ∀ (r : Nat) (X Y : Own) (W : World), Mm w0 (X :: Y :: LL [] y0) W →
    (∀ (pre : List (Fin N)) (x : Fin N) (y : ι) (W : World), pre.length < N → Mm w0 (X :: Y :: LL pre y) W → YieldAt Fence.wide 0 P r #[enc x] W fun e W' => e = .returned (.bool true) ∧ ∃ y', Mm w0 (X :: Y :: LL (pre ++ [x]) y') W') →
    CallsIn Fence.wide 0 P gf (#[.func (.yield r) #[] #[]] ++ lb) W fun e W' => (∃ u, e = .returned u) ∧ ∃ y, Mm w0 (X :: Y :: LL (List.finRange N) y) W'
theorem hc_range {P : Program} {Q : Exit → Act → World → Prop} {s : Sl} {g : Operand} {p m : Nat} {assign body : Code} {w0 : World} {L : List Own} {gf : Nat} {lb : Array Value} {N : Nat} (enc : Fin N → Value) {ι : Type} (LL : List (Fin N) → ι → List Own) (y0 : ι) (sx : Fin N → Sl)
    (hg : ev s g = some (.func (.func gf) #[] lb)) (hgf : IsFn P gf) (hp : Nat.blt p m = true) (h0 : ∀ w, Mm w0 L w → Mm w0 (LL [] y0) w) (hit : Itr P gf lb w0 enc LL y0)
    (hassign : ∀ (r : Nat) (x : Fin N) (M : As), HW r P assign (AQ ⟨m, []⟩ (sx x) M) ⟨m, []⟩ ((p, enc x) :: s) M)
    (hbody : ∀ (r : Nat) (X Y : Own) (pre : List (Fin N)) (x : Fin N) (y : ι), pre.length < N → HW r P body (RQ fun w => ∃ y', Mm w0 (X :: Y :: LL (pre ++ [x]) y') w) ⟨m, []⟩ (sx x) (Mm w0 (X :: Y :: LL pre y)))
    (hrest : ∀ (D : Nat) (y : ι), HQ Q .normal ⟨m, [{ target := .collected D, args := #[] }]⟩ s (Mm w0 (.obj D (.deferred (some [])) :: LL (List.finRange N) y))) :
    HC P (.rangeFunc g #[p] assign body) Q ⟨m, []⟩ s (Mm w0 L) := fun a w hfr hm => by
  refine (wpIn_wide (n := 0)).1 (wpIn_rangeFunc ?_)
  intro fn hfn
  obtain ⟨rec, hrec⟩ : ∃ rec : LoopState → Option Code → Loop, rec = fun st pe => { state := st, pending := pe, fn, tmps := a.tmps, params := #[p], assign, body, defers := w.heap.size } := ⟨_, rfl⟩
  have hm1 := Mem.addo (Mem.addo (h0 w hm) (.deferred (some []))) (.loop (rec .ready none))
  rw [World.size_alloc] at hm1
  have hev := hfr.eval hg
  refine ⟨w.heap.size + 1, [{ target := .collected w.heap.size, args := #[] }], (w.alloc (.deferred (some []))).alloc (.loop (rec .ready none)), { target := .fn (.func gf) lb, args := #[.func (.yield (w.heap.size + 1)) #[] #[]] }, (w.alloc (.deferred (some []))).alloc (.loop (rec .ready none)), gf,
    #[.func (.yield (w.heap.size + 1)) #[] #[]] ++ lb, (w.alloc (.deferred (some []))).alloc (.loop (rec .ready none)), ?_, ?_, fun _ _ => trivial, ?_, fun h => (by cases h), ?_⟩
  · rw [hrec]; exact run_enterLoop_outer _ _ _ _ _
  · simp only [resolve, hev]
    simp [go_sem]
  · simp only [invoke]
    rw [hgf.run]
  · refine (hit (w.heap.size + 1) (.obj (w.heap.size + 1) (.loop (rec .ready none))) (.obj w.heap.size (.deferred (some []))) _ hm1 ?_).mono ?_
    · intro pre x y W hlen hW
      have hl := (hW.at_ (i := 0) rfl).2
      have hy := run_yield (P := P) (args := #[enc x]) hl (by rw [hrec]; rfl)
      rw [hrec] at hy
      refine ⟨fn, _, assign, body, hy, roundIn_of_wpIn hfn ?_⟩
      have hfr1 : Fr ⟨m, []⟩ ((p, enc x) :: s) ({ tmps := (#[p].zip #[enc x]).foldl (fun t (p, v) => t.setIfInBounds p v) a.tmps, defers := [] } : Act) := by
        have h1 := hfr.put (d := p) hp (enc x)
        have e : (#[p].zip #[enc x]).foldl (fun t (p, v) => t.setIfInBounds p v) a.tmps = (a.put (some p) (enc x)).tmps := by simp [Act.put]
        rw [e]
        exact ⟨h1.size, rfl, h1.get⟩
      refine wpIn_mono (hassign _ x _ _ W hfr1 hW) fun e a1 w1 he => ?_
      cases e with
      | normal =>
        obtain ⟨hf2, hm2⟩ := he
        have hl2 := (Mem.at_ hm2 (i := 0) rfl).2
        have hm3 := Mem.puto hm2 (i := 0) (.loop { rec .ready none with state := .busy }) rfl
        refine ⟨_, run_beginRound hl2 (by rw [hrec]), wpIn_mono (hbody _ _ _ pre x y hlen a1 _ hf2 hm3) fun e a3 W3 he3 => ?_⟩
        cases e with
        | normal =>
          obtain ⟨y', hm4⟩ := he3
          have hl4 := (Mem.at_ hm4 (i := 0) rfl).2
          have hm5 := Mem.puto hm4 (i := 0) (.loop (rec .ready none)) rfl
          have hr := run_endRound (P := P) none hl4
          rw [hrec] at hr hm5
          exact ⟨_, _, hr, rfl, y', by rw [hrec]; exact hm5⟩
        | _ => exact he3.elim
      | _ => exact he.elim
    · rintro e W2 ⟨⟨u, rfl⟩, y, hm2⟩
      have hl2 := (Mem.at_ hm2 (i := 0) rfl).2
      have hm3 := Mem.puto hm2 (i := 0) (.loop { rec .ready none with state := .exhausted }) rfl
      have hr := run_endLoop (P := P) hl2 (by rw [hrec]; simp)
      refine ⟨none, _, by rw [hr, hrec], hrest w.heap.size y _ _ ⟨hfr.size, by show _ :: a.defers = _; rw [hfr.defers], hfr.get⟩ (Mem.tail hm3)⟩
/-! A function that holds such a loop. -/
theorem ctD_of {P : Program} {f : Nat} {fn : Func} {c : Code} {args : Array Value} {w : World} {ι : Type} {g : ι → Value} {R : ι → List Own} {m : Nat} (hf : P.funcs[f]? = some fn) (hb : fn.body = some c) (hm : fn.ntmps = m) (hn : Nat.ble args.size m = true)
    (h : HC P c (bodyPostM Fence.wide 0 P fn (fun e w' => ∃ y, e = .returned (g y) ∧ Mm w (R y) w')) ⟨m, []⟩ (tab0 0 args.toList) (Mm w [])) : Ct P f args w g R := by
  subst hm
  have hn := Nat.le_of_ble_eq_true hn
  refine callsIn_wide.1 (callsIn_of_wp_marks (F := Fence.wide) (n := 0) hf hb trivial ((wpIn_wide (n := 0)).2 (h _ w ⟨?_, rfl, fun k v hk => ?_⟩ (Mem.nil w))))
  · simp; omega
  · obtain ⟨j, rfl, hj⟩ := lk_tab0 _ _ _ _ hk
    have hlt : j < args.size := by have := (List.getElem?_eq_some_iff.1 hj).1; simpa using this
    simp only [Nat.zero_add]
    rw [Array.getElem?_append_left hlt]
    simpa using hj
section
variable {P : Program} {n : Nat} {s : Sl} {w0 : World} {L : List Own} {fn : Func} {ι : Type} {g : ι → Value} {R : ι → List Own}
theorem hq_retM0 {r : ResultVar} {v : Value} (y : ι) (hr : fn.results = #[r]) (h : RV P s (Mm w0 L) r v) (hv : v = g y) (hM : ∀ w, Mm w0 L w → Mm w0 (R y) w) : HQ (bodyPostM Fence.wide 0 P fn (fun e w' => ∃ y, e = .returned (g y) ∧ Mm w0 (R y) w')) .ret ⟨n, []⟩ s (Mm w0 L) := fun a w hf hm => by
  show LeavesInM _ _ _ _ _ _ a.defers _ _
  rw [hf.defers]
  refine ⟨v, ?_, y, by rw [hv], hM w hm⟩
  have h1 := h a (fun k u hk => hf.get k u hk) w hm
  simp [results_eq, hr, h1]
theorem hq_retM1 {r : ResultVar} {v : Value} {D : Nat} (y : ι) (hr : fn.results = #[r]) (h : RV P s (Mm w0 (.obj D (.deferred none) :: L)) r v) (hv : v = g y) (hM : ∀ w, Mm w0 L w → Mm w0 (R y) w) : HQ (bodyPostM Fence.wide 0 P fn (fun e w' => ∃ y, e = .returned (g y) ∧ Mm w0 (R y) w')) .ret ⟨n, [{ target := .collected D, args := #[] }]⟩ s (Mm w0 (.obj D (.deferred (some [])) :: L)) := fun a w hf hm => by
  show LeavesInM _ _ _ _ _ _ a.defers _ _
  rw [hf.defers]
  have hk := (Mem.at_ hm (i := 0) rfl).2
  have hm2 := Mem.puto hm (i := 0) (.deferred none) rfl
  refine ⟨by simp, .inl ⟨_, _, rfl, run_takeDeferred hk, v, ?_, y, by rw [hv], hM _ (Mem.tail hm2)⟩⟩
  have h1 := h a (fun k u hk => hf.get k u hk) _ hm2
  simp [results_eq, hr, h1]
end
/-! The iterator over pieces of a slice. -/
section
variable {P : Program} {n : Fz} {s : Sl} {M : As} {o : Oper} {Q : Exit → Act → World → Prop}
theorem HY.ex {ι : Type} {Mf : ι → As} {ops : Array Oper} {l : List Oper} (h : ∀ y, HY P ops Q l n s (Mf y)) : HY P ops Q l n s (fun w => ∃ y, Mf y w) := fun a w hf ⟨y, hm⟩ => h y a w hf hm
theorem y_slcc {A : Option Addr} {len cap lo : Nat} {x y : Operand} {t e : Nat} (ho : o.op = .slice t x (some y) none none) (ht : TSlice P t e) (hx : ev s x = some (.slice A len cap)) (hy : ev s y = some (vi lo)) (h1 : lo ≤ len) (h2 : len ≤ cap) : Yl P s M o (slc (.slice A len cap) lo len) := fun a ha w hm => by
  have e1 := ha x _ hx
  have e2 := ha y _ hy
  have h5 : 0 ≤ (lo : Int) ∧ (lo : Int) ≤ len := by omega
  simp only [execOp, ho, Instr.sliceAt, e1, e2, Option.map_some, Option.map_none, Sem.run_bind, run_underlying ht.1, Result.andThen_ok, Instr.slice, Instr.sliceBounds, Sem.run_pure, Instr.sliceBound, asIntOf, if_pos h5, run_sizeOf_of ht.2, Nat.mul_one, Int.toNat_natCast, slc]
theorem y_slc3c {A : Option Addr} {len cap lo hi mx : Nat} {x y z u : Operand} {t e : Nat} (ho : o.op = .slice t x (some y) (some z) (some u)) (ht : TSlice P t e) (hx : ev s x = some (.slice A len cap)) (hy : ev s y = some (vi lo)) (hz : ev s z = some (vi hi)) (hu : ev s u = some (vi mx)) (h1 : lo ≤ hi) (h2 : hi ≤ mx) (h3 : mx ≤ cap) : Yl P s M o (slc3 (.slice A len cap) lo hi mx) := fun a ha w hm => by
  have e1 := ha x _ hx
  have e2 := ha y _ hy
  have e3 := ha z _ hz
  have e4 := ha u _ hu
  have h4 : 0 ≤ (mx : Int) ∧ (mx : Int) ≤ cap := by omega
  have h5 : 0 ≤ (hi : Int) ∧ (hi : Int) ≤ mx := by omega
  have h6 : 0 ≤ (lo : Int) ∧ (lo : Int) ≤ hi := by omega
  simp only [execOp, ho, Instr.sliceAt, e1, e2, e3, e4, Option.map_some, Sem.run_bind, run_underlying ht.1, Result.andThen_ok, Instr.slice, Instr.sliceBounds, Sem.run_pure, Instr.sliceBound, asIntOf, if_pos h4, if_pos h5, if_pos h6, run_sizeOf_of ht.2, Nat.mul_one, Int.toNat_natCast, slc3]
end
def chunks (len w : Nat) : Nat := (len + w - 1) / w
theorem chunks_lt {len w k : Nat} (hw : 1 ≤ w) (h : k * w < len) : k < chunks len w := by
  unfold chunks
  rw [Nat.lt_iff_add_one_le, Nat.le_div_iff_mul_le hw, Nat.add_one_mul]
  omega
theorem chunks_ge {len w k : Nat} (hw : 1 ≤ w) (h : ¬ k * w < len) : chunks len w ≤ k := by
  unfold chunks
  rw [← Nat.lt_add_one_iff, Nat.div_lt_iff_lt_mul hw, Nat.add_one_mul]
  omega
theorem chunks_at {len w k : Nat} (hw : 1 ≤ w) (h : k < chunks len w) : k * w < len := Decidable.byContradiction fun hn => by have := chunks_ge hw hn; omega
theorem chunks_le {len w : Nat} (hw : 1 ≤ w) : chunks len w ≤ len := by
  unfold chunks
  rw [← Nat.lt_add_one_iff, Nat.div_lt_iff_lt_mul hw]
  have h1 : len ≤ len * w := Nat.le_mul_of_pos_right len hw
  rw [Nat.add_mul]
  omega
/-- A piece of w bytes, the k-th. -/
def chunk (l : List UInt8) (w k : Nat) : List UInt8 := (l.drop (k * w)).take w
theorem rd_chunk {M : As} {A : Option Addr} {cap w k : Nat} {l : List UInt8} (hw : 1 ≤ w) (h : RdM M (.slice A l.length cap) (ls vb l)) (hk : k < chunks l.length w) : RdM M (slc3 (.slice A l.length cap) (k * w) (k * w + min w (l.length - k * w)) (k * w + min w (l.length - k * w))) (ls vb (chunk l w k)) := by
  have hlt := chunks_at hw hk
  have h1 := RdM.slc3 h (lo := k * w) (hi := k * w + min w (l.length - k * w)) (mx := k * w + min w (l.length - k * w)) (by omega) (by rw [ls_len]; omega) (Nat.le_refl _)
  rw [ls_sub] at h1
  have e : (l.drop (k * w)).take (k * w + min w (l.length - k * w) - k * w) = chunk l w k := by
    rw [chunk, List.take_eq_take_iff]
    simp
  rwa [e] at h1
theorem hq_ret0 {P : Program} {n : Nat} {s : Sl} {M : As} {fn : Func} {ι : Type} {g : ι → Value} {R : ι → As} (y : ι) (hr : fn.results = #[]) (hv : .tuple #[] = g y) (hM : ∀ w, M w → R y w) : HQ (bodyPost P fn (fun e w' => ∃ y, e = .returned (g y) ∧ R y w')) .normal ⟨n, []⟩ s M := fun a w hf hm => by
  refine ⟨hf.defers, .tuple #[], ?_, y, by rw [hv], hM w hm⟩
  simp [results_eq, hr]
theorem fin_map {N : Nat} {α : Type} (f : Nat → α) : (List.finRange N).map (fun k => f k.val) = (List.range N).map f := by
  apply List.ext_getElem
  · simp
  · intro i h1 h2
    simp
theorem fin_next {N k : Nat} (h : k < N) : (List.finRange N).take (k + 1) = (List.finRange N).take k ++ [⟨k, h⟩] := by
  rw [List.take_add_one]
  simp [h]
theorem fin_all {N k : Nat} (h : N ≤ k) : (List.finRange N).take k = List.finRange N := List.take_of_length_le (by simpa using h)
end Go.Proofs.YtcdidapkpfnphaaDoor
