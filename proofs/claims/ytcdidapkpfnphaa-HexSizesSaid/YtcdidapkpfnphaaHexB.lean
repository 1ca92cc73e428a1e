/- Rows of texts: what each call gives back. -/
import Derived.Test.YtcdidapkpfnphaaHexA
namespace Go.Proofs.Ytcdidapkpfnphaa
open Go.RowKit
set_option linter.unusedVariables false
set_option linter.unusedSimpArgs false
theorem chunk_ct (A : Option Addr) (len cap wd : Nat) (hwd : 1 ≤ wd) (w : World) : Ct Try.prog 56 #[.slice A len cap, vi wd] w (fun y : Nat × Nat => .func (.func 70) #[] #[.pointer (some ⟨y.1, 0, none⟩), .pointer (some ⟨y.2, 0, none⟩)]) (fun y => [.blk y.2 3 [vi wd], .blk y.1 22 [.slice A len cap]]) := by
  refine ct_of Try.func56 rfl Try.ntmps56 rfl ?_
  refine hc_seq ?_
  refine hc_region ?_
  refine hl_i rfl rfl rfl (e_box1 rfl rfl rfl) ?_; intro g2
  refine hl_i rfl rfl rfl (e_box1 rfl rfl rfl) ?_; intro g3
  refine hl_y rfl rfl rfl (y_assign rfl rfl) ?_
  refine hl_nil ?_
  refine hq_then ?_
  refine hc_seq ?_
  refine hc_seq ?_
  refine hc_region ?_
  refine hl_y rfl rfl rfl (y_ld 0 rfl O3 rfl rfl rfl) ?_
  refine hl_y rfl rfl rfl (y_lssn (q := 1) rfl rfl rfl ) ?_
  refine hl_nil ?_
  refine hq_then ?_
  refine hc_if rfl (fun c0 => ?_) (fun c0 => ?_)
  · replace c0 := of_decide_eq_true c0
    exfalso; omega
  · replace c0 := of_decide_eq_false c0
    refine hc_skip ?_
    refine hq_then ?_
    refine hc_seq ?_
    refine hc_region ?_
    refine hl_y rfl rfl rfl (y_func (vs := #[.pointer (some ⟨g2, 0, none⟩), .pointer (some ⟨g3, 0, none⟩)]) rfl rfl) ?_
    refine hl_y rfl rfl rfl (y_assign rfl rfl) ?_
    refine hl_nil ?_
    refine hq_then ?_
    refine hc_ret ?_
    exact hq_ret1 ((g2, g3)) rfl (rv_tmp rfl) rfl (fun _ h => h)

theorem chunk_itr (A : Option Addr) (len cap wd : Nat) (hwd : 1 ≤ wd) (hw2 : wd ≤ 4611686018427387904) (hlc : len ≤ cap) (hln : len ≤ 4611686018427387904) (gs gn : Nat) (w0 : World) {ι : Type} (LL : List (Fin (chunks len wd)) → ι → List Own) (y0 : ι) (i j : Nat) (hi : ∀ pre y, (LL pre y)[i]? = some (.blk gs 22 [.slice A len cap])) (hj : ∀ pre y, (LL pre y)[j]? = some (.blk gn 3 [vi wd])) : Itr Try.prog 70 #[.pointer (some ⟨gs, 0, none⟩), .pointer (some ⟨gn, 0, none⟩)] w0 (fun k : Fin (chunks len wd) => slc3 (.slice A len cap) (k.val * wd) (k.val * wd + min wd (len - k.val * wd)) (k.val * wd + min wd (len - k.val * wd))) LL y0 := by
  intro r X Y W hW hy
  refine callsIn_wide.2 (Calls.mono (R := fun e w' => ∃ y : ι, e = .returned (.tuple #[]) ∧ Mm w0 (X :: Y :: LL (List.finRange (chunks len wd)) y) w') ?_ (fun e w' ⟨y, he, hm⟩ => ⟨⟨_, he⟩, y, hm⟩))
  refine ctM_of (g := fun _ : ι => .tuple #[]) (R := fun y => Mm w0 (X :: Y :: LL (List.finRange (chunks len wd)) y)) Try.func70 rfl Try.ntmps70 rfl hW ?_
  refine hc_seq ?_
  refine hc_region ?_
  refine hl_y rfl rfl rfl (y_assign (v := vi 0) rfl rfl) ?_
  refine hl_nil ?_
  refine hq_then ?_
  refine hc_block ?_
  refine hc_loop2 (fun k y => k ≤ (chunks len wd)) (fun k y => (chunks len wd) - k) (fun k y => [(0, .func (.yield r) #[] #[]), (1, .pointer (some ⟨gs, 0, none⟩)), (2, .pointer (some ⟨gn, 0, none⟩)), (4, vi (k * wd))]) (fun k y => Mm w0 (X :: Y :: LL ((List.finRange (chunks len wd)).take k) y)) (0) (y0) (by omega) ⟨rfl, rfl, rfl, lk_int rfl (by simp), trivial⟩ (fun _ h => h) ?_
  intro k y hk
  refine hc_seq ?_
  refine hc_seq ?_
  refine hc_region ?_
  refine hl_y rfl rfl rfl (y_move rfl rfl) ?_
  refine hl_y rfl rfl rfl (y_ld (i + 2) rfl O22 rfl (hi _ _) rfl) ?_
  refine hl_y rfl rfl rfl (y_lenc rfl rfl S22 rfl) ?_
  refine hl_y rfl rfl rfl (y_lssn rfl rfl rfl ) ?_
  refine hl_nil ?_
  refine hq_then ?_
  refine hc_if rfl (fun c0 => ?_) (fun c0 => ?_)
  · replace c0 := of_decide_eq_true c0
    have hlt := chunks_lt hwd c0
    refine hc_skip ?_
    refine hq_then ?_
    refine hc_seq ?_
    refine hc_block ?_
    refine hc_seq ?_
    refine hc_draw (Mm w0 (X :: Y :: LL ((List.finRange (chunks len wd)).take k) y)) follows_mixed ?_
    refine hh_y 0 rfl rfl rfl rfl (by kernel_rfl) (by kernel_rfl) (by kernel_rfl) (fun _ h => h) (y_ld (j + 2) rfl O3 rfl (hj _ _) rfl) ?_
    refine hh_y 1 rfl rfl rfl rfl (by kernel_rfl) (by kernel_rfl) (by kernel_rfl) (fun _ h => h) (y_ld (i + 2) rfl O22 rfl (hi _ _) rfl) ?_
    refine hh_y 2 rfl rfl rfl rfl (by kernel_rfl) (by kernel_rfl) (by kernel_rfl) (fun _ h => h) (y_move rfl rfl) ?_
    refine hh_y 3 rfl rfl rfl rfl (by kernel_rfl) (by kernel_rfl) (by kernel_rfl) (fun _ h => h) (y_slcc rfl S22 rfl rfl (by omega) (by omega)) ?_
    refine hh_y 4 rfl rfl rfl rfl (by kernel_rfl) (by kernel_rfl) (by kernel_rfl) (fun _ h => h) (y_lenc rfl rfl S22 rfl) ?_
    refine hh_y 5 rfl rfl rfl rfl (by kernel_rfl) (by kernel_rfl) (by kernel_rfl) (fun _ h => h) (y_minn rfl rfl rfl) ?_
    refine hh_y 6 rfl rfl rfl rfl (by kernel_rfl) (by kernel_rfl) (by kernel_rfl) (fun _ h => h) (y_assign rfl rfl) ?_
    refine hh_done (by kernel_rfl) ?_
    refine hq_then ?_
    refine hc_seq ?_
    refine hc_regiony ?_
    refine hy_y rfl rfl rfl rfl (y_move rfl rfl) ?_
    refine hy_y rfl rfl rfl rfl (y_ld (i + 2) rfl O22 rfl (hi _ _) rfl) ?_
    refine hy_y rfl rfl rfl rfl (y_move rfl rfl) ?_
    refine hy_y rfl rfl rfl rfl (y_move rfl rfl) ?_
    refine hy_y rfl rfl rfl rfl (y_move rfl rfl) ?_
    refine hy_y rfl rfl rfl rfl (y_addn rfl rfl rfl (by omega)) ?_
    refine hy_y rfl rfl rfl rfl (y_move rfl rfl) ?_
    refine hy_y rfl rfl rfl rfl (y_move rfl rfl) ?_
    refine hy_y rfl rfl rfl rfl (y_addn rfl rfl rfl (by omega)) ?_
    refine hy_y rfl rfl rfl rfl (y_slc3c rfl S22 rfl rfl rfl rfl (by omega) (by omega) (by omega)) ?_
    refine hy_yield (M' := fun W => ∃ y', Mm w0 (X :: Y :: LL ((List.finRange (chunks len wd)).take k ++ [⟨k, hlt⟩]) y') W) rfl rfl rfl rfl rfl rfl (fun W hW => hy _ ⟨k, hlt⟩ y W (by simp; omega) hW) ?_
    refine HY.ex fun y1 => ?_
    refine hy_y rfl rfl rfl rfl (y_not rfl rfl) ?_
    refine hy_nil ?_
    refine hq_then ?_
    refine hc_ifF rfl ?_
    refine hc_skip ?_
    refine hq_in (hq_then ?_)
    refine hc_region ?_
    refine hl_y rfl rfl rfl (y_move rfl rfl) ?_
    refine hl_y rfl rfl rfl (y_ld (j + 2) rfl O3 rfl (hj _ _) rfl) ?_
    refine hl_y rfl rfl rfl (y_addn rfl rfl rfl (by omega)) ?_
    refine hl_y rfl rfl rfl (y_assign rfl rfl) ?_
    refine hl_nil ?_
    exact hq_round2 (k + 1) (y1) (by omega) (by omega) ⟨rfl, rfl, rfl, lk_int rfl (by rw [Nat.add_one_mul]), trivial⟩ (fun _ h => h.mm (by rw [fin_next hlt]))
  · replace c0 := of_decide_eq_false c0
    have hge := chunks_ge hwd c0
    refine hc_exit ?_
    exact hq_then_exit (hq_loop_exit2 (hq_in_same (hq_ret0 (y) rfl  rfl (fun _ h => h.mm (by rw [fin_all hge])))))

theorem hex_Rows_ct (l : List UInt8) (v : Value) (wd : Nat) (hb : wd ≤ 9223372036854775807) (w : World) (hv : Rd w v (ls vb l)) (hm : l.length ≤ 100000000) : Ct Try.prog 15 #[v, vi wd] w (fun v : Value => v) (fun v => [.row 9 v (ls vs (rowsL l wd))]) := by
  obtain ⟨A, cap, rfl, hcap, hcell⟩ := id hv
  simp only [ls_len] at hv hcap ⊢
  refine ctD_of Try.func15 rfl Try.ntmps15 rfl ?_
  refine hc_seq ?_
  refine hc_region ?_
  refine hl_i rfl rfl rfl (e_alloc rfl Z24) ?_; intro g4
  refine hl_nil ?_
  refine hq_then ?_
  refine hc_seq ?_
  refine hc_seq ?_
  rcases Decidable.em (wd < 1) with c0 | c0
  · skip
    refine hc_region ?_
    refine hl_y rfl rfl rfl (y_move rfl rfl) ?_
    refine hl_y rfl rfl rfl (y_as (y_lssn (q := 1) rfl rfl rfl ) (congrArg Value.bool (decide_eq_true (by omega)))) ?_
    refine hl_y rfl rfl rfl (y_move rfl rfl) ?_
    refine hl_no 2 8 false true rfl rfl rfl rfl rfl rfl ?_
    refine hl_no 2 8 false true rfl rfl rfl rfl rfl rfl ?_
    refine hl_y rfl rfl rfl (y_pick (b := true) rfl rfl rfl) ?_
    refine hl_nil ?_
    refine hq_then ?_
    refine hc_ifT rfl ?_
    refine hc_seq ?_
    refine hc_region ?_
    refine hl_i0 rfl rfl (e_st 0 rfl O24.2 rfl rfl rfl rfl (by decide)) ?_; intro _
    refine hl_nil ?_
    refine hq_then ?_
    refine hc_ret ?_
    exact hq_then_ret (hq_retM0 (.slice none 0 0) rfl (rv_one 0 rfl O24 rfl rfl) rfl (fun _ h => (mm_nil 9 _ (Mm.pick h [] (by decide))).mm (by rw [rowsL, if_neg (fun h => by omega)]; rfl)))
  · skip
    rcases Decidable.em (64 < wd) with c1 | c1
    · skip
      refine hc_region ?_
      refine hl_y rfl rfl rfl (y_move rfl rfl) ?_
      refine hl_y rfl rfl rfl (y_as (y_lssn (q := 1) rfl rfl rfl ) (congrArg Value.bool (decide_eq_false (by omega)))) ?_
      refine hl_y rfl rfl rfl (y_move rfl rfl) ?_
      refine hl_yg 2 8 false rfl rfl rfl rfl rfl (y_move rfl rfl) ?_
      refine hl_yg 2 8 false rfl rfl rfl rfl rfl (y_as (y_gtrn (q := 64) rfl rfl rfl ) (congrArg Value.bool (decide_eq_true (by omega)))) ?_
      refine hl_y rfl rfl rfl (y_pick (b := false) rfl rfl rfl) ?_
      refine hl_nil ?_
      refine hq_then ?_
      refine hc_ifT rfl ?_
      refine hc_seq ?_
      refine hc_region ?_
      refine hl_i0 rfl rfl (e_st 0 rfl O24.2 rfl rfl rfl rfl (by decide)) ?_; intro _
      refine hl_nil ?_
      refine hq_then ?_
      refine hc_ret ?_
      exact hq_then_ret (hq_retM0 (.slice none 0 0) rfl (rv_one 0 rfl O24 rfl rfl) rfl (fun _ h => (mm_nil 9 _ (Mm.pick h [] (by decide))).mm (by rw [rowsL, if_neg (fun h => by omega)]; rfl)))
    · skip
      refine hc_region ?_
      refine hl_y rfl rfl rfl (y_move rfl rfl) ?_
      refine hl_y rfl rfl rfl (y_as (y_lssn (q := 1) rfl rfl rfl ) (congrArg Value.bool (decide_eq_false (by omega)))) ?_
      refine hl_y rfl rfl rfl (y_move rfl rfl) ?_
      refine hl_yg 2 8 false rfl rfl rfl rfl rfl (y_move rfl rfl) ?_
      refine hl_yg 2 8 false rfl rfl rfl rfl rfl (y_as (y_gtrn (q := 64) rfl rfl rfl ) (congrArg Value.bool (decide_eq_false (by omega)))) ?_
      refine hl_y rfl rfl rfl (y_pick (b := false) rfl rfl rfl) ?_
      refine hl_nil ?_
      refine hq_then ?_
      refine hc_ifF rfl ?_
      refine hc_skip ?_
      refine hq_then ?_
      refine hc_seq ?_
      refine hc_seq ?_
      refine hc_region ?_
      refine hl_y rfl rfl rfl (y_move rfl rfl) ?_
      refine hl_y rfl rfl rfl (y_move rfl rfl) ?_
      refine hl_i rfl rfl rfl (e_call rfl F56 rfl (fun w hw => chunk_ct _ _ _ wd (by omega) w) rfl) ?_; intro y14
      refine hl_nil ?_
      refine hq_then ?_
      refine hc_block ?_
      refine hc_range (fun k : Fin (chunks l.length wd) => slc3 (.slice A l.length cap) (k.val * wd) (k.val * wd + min wd (l.length - k.val * wd)) (k.val * wd + min wd (l.length - k.val * wd))) (fun pre u => [.row 9 u (ls vs (pre.map (fun k : Fin (chunks l.length wd) => hexL (chunk l wd k.val)))), .blk g4 24 [u], .blk y14.2 3 [vi wd], .blk y14.1 22 [.slice A l.length cap]]) (.slice none 0 0) (fun x => [(4, .pointer (some ⟨g4, 0, none⟩)), (5, slc3 (.slice A l.length cap) (x.val * wd) (x.val * wd + min wd (l.length - x.val * wd)) (x.val * wd + min wd (l.length - x.val * wd)))]) rfl F70 rfl (fun _ h => mm_nil 9 _ (Mm.pick h [2, 0, 1] (by decide))) (chunk_itr A l.length cap wd (by omega) (by omega) (by omega) (by omega) y14.1 y14.2 w _ _ 3 2 (fun _ _ => rfl) (fun _ _ => rfl)) ?_ ?_ ?_
      · intro r x M
        refine hw_region aq_no rfl ?_
        refine hl_y rfl rfl rfl (y_assign rfl rfl) ?_
        refine hl_nil ?_
        exact hq_aq ⟨rfl, rfl, trivial⟩
      · intro r X Y pre x y hlen
        have hcl := chunks_le (len := l.length) (w := wd) (by omega)
        refine hw_block ?_
        refine hw_draw [] follows_mixed (rq_block rq_no) rfl ?_
        refine hh_y 1 rfl rfl rfl rfl (by kernel_rfl) (by kernel_rfl) (by kernel_rfl) (fun _ h => Mm.pick h [] (by decide)) (y_move rfl rfl) ?_
        refine hh_or2 0 2 (by kernel_rfl) ?_ ?_
        · skip
          refine ho_i 0 rfl rfl rfl rfl (ef_y (y_as (y_ld 3 rfl O24 rfl rfl rfl) rfl)) (fun _ _ h => Mm.pick h [] (by decide)) ?_; intro _
          refine hh_i 2 rfl rfl rfl rfl (by kernel_rfl) (e_call0 rfl F16 rfl (fun w hw => hex_Print_ct _ _ w (((rd_chunk (by omega) (rdF hv) x.isLt)) w hw) (by simp [chunk]; omega)) rfl) (fun _ _ h => Mm.pick h [] (by decide)) ?_; intro _
          refine hh_i 3 rfl rfl rfl rfl (by kernel_rfl) (e_lit1 rfl S24 Z1_9 rfl rfl rfl) (fun _ _ h => Mm.pick h [] (by decide)) ?_; intro g19
          refine hh_i 4 rfl rfl rfl rfl (by kernel_rfl) (e_appt 3 rfl A24_9 rfl rfl rfl (rdB 0 rfl rfl rfl (by omega)) (show _ = ls vs [hexL (chunk l wd x.val)] from rfl) (by simp; omega)) (fun _ _ h => Mm.pick h [] (by decide)) ?_; intro y20
          refine hh_i0 5 rfl rfl rfl (by kernel_rfl) (e_str 4 3 rfl O24.2 rfl rfl rfl rfl (by simp)) (fun _ _ h => Mm.pick_set h [] (by decide) (by decide)) ?_; intro _
          refine hh_done (by kernel_rfl) ?_
          exact hq_in (hq_rq (fun w h => ⟨y20, (Mm.pick h [1, 2, 3, 4, 5, 6] (by decide)).mm (by rw [List.map_append]; rfl)⟩))
        · skip
          refine ho_i 2 rfl rfl rfl rfl (e_call0 rfl F16 rfl (fun w hw => hex_Print_ct _ _ w (((rd_chunk (by omega) (rdF hv) x.isLt)) w hw) (by simp [chunk]; omega)) rfl) (fun _ _ h => Mm.pick h [] (by decide)) ?_; intro _
          refine hh_pair 0 3 (.inl (by kernel_rfl)) (by kernel_rfl) (by kernel_rfl) rfl rfl rfl rfl rfl rfl rfl rfl rfl rfl (e_lit1 rfl S24 Z1_9 rfl rfl rfl) (ef_y (y_as (y_ld 3 rfl O24 rfl rfl rfl) rfl)) (by intro _; exact ef_y (y_as (y_ld 4 rfl O24 rfl rfl rfl) rfl)) (fun _ h => Mm.pick h [] (by decide)) (fun _ _ h => Mm.pick h [] (by decide)) rfl rfl ?_; intro g19
          refine hh_i 4 rfl rfl rfl rfl (by kernel_rfl) (e_appt 3 rfl A24_9 rfl rfl rfl (rdB 0 rfl rfl rfl (by omega)) (show _ = ls vs [hexL (chunk l wd x.val)] from rfl) (by simp; omega)) (fun _ _ h => Mm.pick h [] (by decide)) ?_; intro y20
          refine hh_i0 5 rfl rfl rfl (by kernel_rfl) (e_str 4 3 rfl O24.2 rfl rfl rfl rfl (by simp)) (fun _ _ h => Mm.pick_set h [] (by decide) (by decide)) ?_; intro _
          refine hh_done (by kernel_rfl) ?_
          exact hq_in (hq_rq (fun w h => ⟨y20, (Mm.pick h [1, 2, 3, 4, 5, 6] (by decide)).mm (by rw [List.map_append]; rfl)⟩))
      · intro D y
        refine hq_in (hq_then ?_)
        refine hc_seq ?_
        refine hc_region ?_
        refine hl_y rfl rfl rfl (y_ld 2 rfl O24 rfl rfl rfl) ?_
        refine hl_i0 rfl rfl (e_str 2 1 rfl O24.2 rfl rfl rfl rfl (by simp)) ?_; intro _
        refine hl_nil ?_
        refine hq_then ?_
        refine hc_ret ?_
        exact hq_retM1 (y) rfl (rv_one 2 rfl O24 rfl rfl) rfl (fun _ h => (Mm.pick h [0] (by decide)).mm (by rw [rowsL, if_pos ⟨by omega, by omega⟩, ← fin_map]; rfl))

theorem hex_Rows_neg (l : List UInt8) (v : Value) (wd : Int) (hb : -9223372036854775808 ≤ wd) (hn0 : wd < 0) (w : World) (hv : Rd w v (ls vb l)) : Ct0 Try.prog 15 #[v, .int .i64 wd] w (.slice none 0 0) := by
  refine ct0_of Try.func15 rfl Try.ntmps15 rfl ?_
  refine hc_seq ?_
  refine hc_region ?_
  refine hl_i rfl rfl rfl (e_alloc rfl Z24) ?_; intro g4
  refine hl_nil ?_
  refine hq_then ?_
  refine hc_seq ?_
  refine hc_seq ?_
  refine hc_region ?_
  refine hl_y rfl rfl rfl (y_move rfl rfl) ?_
  refine hl_y rfl rfl rfl (y_as (y_lssi (q := 1) rfl rfl rfl ) (congrArg Value.bool (decide_eq_true (by omega)))) ?_
  refine hl_y rfl rfl rfl (y_move rfl rfl) ?_
  refine hl_no 2 8 false true rfl rfl rfl rfl rfl rfl ?_
  refine hl_no 2 8 false true rfl rfl rfl rfl rfl rfl ?_
  refine hl_y rfl rfl rfl (y_pick (b := true) rfl rfl rfl) ?_
  refine hl_nil ?_
  refine hq_then ?_
  refine hc_ifT rfl ?_
  refine hc_seq ?_
  refine hc_region ?_
  refine hl_i0 rfl rfl (e_st 0 rfl O24.2 rfl rfl rfl rfl (by decide)) ?_; intro _
  refine hl_nil ?_
  refine hq_then ?_
  refine hc_ret ?_
  exact hq_then_ret (hq_ret1 (()) rfl (rv_one 0 rfl O24 rfl rfl) rfl (fun _ h => Mm.pick h [] (by simp)))

end Go.Proofs.Ytcdidapkpfnphaa
