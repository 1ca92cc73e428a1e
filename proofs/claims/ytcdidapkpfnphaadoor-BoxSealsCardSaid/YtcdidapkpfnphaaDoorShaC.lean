/- Bytes one behind the other, and the document's own words and blocks: what each call gives back. -/
import Derived.Test.YtcdidapkpfnphaaDoorShaB
namespace Go.Proofs.YtcdidapkpfnphaaDoor
open Go.RowKit
set_option linter.unusedVariables false
set_option linter.unusedSimpArgs false
set_option maxRecDepth 100000
theorem r01_Join_ct (la lb : List UInt8) (av bv : Value)  (w : World) (ha : Rd w av (ls vb la)) (hb : Rd w bv (ls vb lb)) (hm : la.length + lb.length ≤ 1000000000) : Ct Tryd.prog 32 #[av, bv] w (fun v : Value => v) (fun v => [.row 5 v (ls vb (la ++ lb))]) := by
  refine ct_of Tryd.func32 rfl Tryd.ntmps32 rfl ?_
  refine hc_seq ?_
  refine hc_region ?_
  refine hl_y rfl rfl rfl (y_assign rfl rfl) ?_
  refine hl_nil ?_
  refine hq_then ?_
  refine hc_seq ?_
  refine hc_region ?_
  refine hl_y rfl rfl rfl (y_assign rfl rfl) ?_
  refine hl_nil ?_
  refine hq_then ?_
  refine hc_seq ?_
  refine HC.mem (mm_nilb 5) ?_
  refine hc_region ?_
  refine hl_y rfl rfl rfl (y_move rfl rfl) ?_
  refine hl_y rfl rfl rfl (y_move rfl rfl) ?_
  refine hl_i rfl rfl rfl (e_appb 0 rfl A22_5 rfl rfl rfl (rdF ha) rfl (by simp; omega)) ?_; intro y8
  refine hl_y rfl rfl rfl (y_assign rfl rfl) ?_
  refine hl_nil ?_
  refine hq_then ?_
  refine hc_seq ?_
  refine hc_region ?_
  refine hl_y rfl rfl rfl (y_move rfl rfl) ?_
  refine hl_y rfl rfl rfl (y_move rfl rfl) ?_
  refine hl_i rfl rfl rfl (e_appb 0 rfl A22_5 rfl rfl rfl (rdF hb) rfl (by simp; omega)) ?_; intro y11
  refine hl_y rfl rfl rfl (y_assign rfl rfl) ?_
  refine hl_nil ?_
  refine hq_then ?_
  refine hc_ret ?_
  exact hq_ret1 (y11) rfl (rv_tmp rfl) rfl (fun _ h => h)

theorem r07_right_ct (x : UInt32) (n : Nat) (h0 : 1 ≤ n) (h1 : n ≤ 31) (w : World) : Ct0 Tryd.prog 67 #[vw x, vi n] w (vw (rotR x n)) := by
  refine ct0_of Tryd.func67 rfl Tryd.ntmps67 rfl ?_
  refine hc_seq ?_
  refine hc_region ?_
  refine hl_y rfl rfl rfl (y_assign (v := vw 0) rfl rfl) ?_
  refine hl_nil ?_
  refine hq_then ?_
  refine hc_seq ?_
  refine hc_drawP [] follows_mixed ?_
  refine hh_y 0 rfl rfl rfl rfl (by kernel_rfl) (by kernel_rfl) (by kernel_rfl) (fun _ h => Mm.pick h [] (by decide)) (y_move rfl rfl) ?_
  refine hh_y 1 rfl rfl rfl rfl (by kernel_rfl) (by kernel_rfl) (by kernel_rfl) (fun _ h => Mm.pick h [] (by decide)) (y_move rfl rfl) ?_
  refine hh_y 2 rfl rfl rfl rfl (by kernel_rfl) (by kernel_rfl) (by kernel_rfl) (fun _ h => Mm.pick h [] (by decide)) (y_shrw (m := n) rfl rfl rfl rfl (by omega)) ?_
  refine hh_y 3 rfl rfl rfl rfl (by kernel_rfl) (by kernel_rfl) (by kernel_rfl) (fun _ h => Mm.pick h [] (by decide)) (y_move rfl rfl) ?_
  refine hh_y 4 rfl rfl rfl rfl (by kernel_rfl) (by kernel_rfl) (by kernel_rfl) (fun _ h => Mm.pick h [] (by decide)) (y_move rfl rfl) ?_
  refine hh_y 5 rfl rfl rfl rfl (by kernel_rfl) (by kernel_rfl) (by kernel_rfl) (fun _ h => Mm.pick h [] (by decide)) (y_subn (p := 32) rfl rfl rfl (by omega) (by omega)) ?_
  refine hh_y 6 rfl rfl rfl rfl (by kernel_rfl) (by kernel_rfl) (by kernel_rfl) (fun _ h => Mm.pick h [] (by decide)) (y_shlw (m := (32 - n)) rfl rfl rfl rfl (by omega)) ?_
  refine hh_y 7 rfl rfl rfl rfl (by kernel_rfl) (by kernel_rfl) (by kernel_rfl) (fun _ h => Mm.pick h [] (by decide)) (y_as (y_orw rfl rfl rfl) (congrArg vw (rot_ref x n))) ?_
  refine hh_y 8 rfl rfl rfl rfl (by kernel_rfl) (by kernel_rfl) (by kernel_rfl) (fun _ h => Mm.pick h [] (by decide)) (y_assign rfl rfl) ?_
  refine hh_done (by kernel_rfl) ?_
  refine hq_then ?_
  refine hc_ret ?_
  exact hq_ret1 (()) rfl (rv_tmp rfl) rfl (fun _ h => Mm.pick h [] (by simp))

theorem r07_Words_ct (l : List UInt8) (v : Value)  (w : World) (hv : Rd w v (ls vb l)) : Ct0 Tryd.prog 24 #[v] w (.agg (ns vw 64 (wordsF l)).toArray) := by
  refine ct0_of Tryd.func24 rfl Tryd.ntmps24 rfl ?_
  refine hc_seq ?_
  refine hc_region ?_
  refine hl_i rfl rfl rfl (e_alloc rfl Z31) ?_; intro g2
  refine hl_nil ?_
  refine hq_then ?_
  refine hc_seq ?_
  refine hc_region ?_
  refine hl_i rfl rfl rfl (e_alloc rfl Z31) ?_; intro g3
  refine hl_nil ?_
  refine hq_then ?_
  refine hc_seq ?_
  refine hc_seq ?_
  refine hc_region ?_
  refine hl_y rfl rfl rfl (y_move rfl rfl) ?_
  refine hl_y rfl rfl rfl (y_lenE (l.length) rfl rfl S22 rfl (rdF hv) (by first | rfl | simp only [ls_len, ns_len] | (simp only [ls_len, ns_len]; omega))) ?_
  refine hl_y rfl rfl rfl (y_neqn (q := 64) rfl rfl rfl ) ?_
  refine hl_nil ?_
  refine hq_then ?_
  refine hc_if rfl (fun c0 => ?_) (fun c0 => ?_)
  · replace c0 := of_decide_eq_true c0
    refine hc_seq ?_
    refine hc_region ?_
    refine hl_y rfl rfl rfl (y_ldw 0 rfl T31 rfl rfl) ?_
    refine hl_i0 rfl rfl (e_stw 1 rfl T31.2 rfl rfl rfl (ns_onew _ _)) ?_; intro _
    refine hl_nil ?_
    refine hq_then ?_
    refine hc_ret ?_
    exact hq_then_ret (hq_ret1 (()) rfl (rv_arr 1 rfl T31 rfl (ns_len _ _).symm) (by rw [wordsF, if_neg c0]) (fun _ h => Mm.pick h [] (by simp)))
  · replace c0 := of_decide_eq_false c0
    replace c0 := Decidable.not_not.1 c0
    refine hc_skip ?_
    refine hq_then ?_
    refine hc_seq ?_
    refine hc_seq ?_
    refine hc_region ?_
    refine hl_y rfl rfl rfl (y_assign (v := vi 0) rfl rfl) ?_
    refine hl_nil ?_
    refine hq_then ?_
    refine hc_block ?_
    refine hc_loop (fun k => k ≤ 16) (fun k => 16 - k) (fun k => [(0, v), (2, .pointer (some ⟨g2, 0, none⟩)), (3, .pointer (some ⟨g3, 0, none⟩)), (4, vi k)]) (fun k => Mm w [.blk g3 31 (ns vw 64 (fun i => if i < k then sch l i else 0)), .blk g2 31 (ns vw 64 (fun _ => 0))]) (0) (by omega) ⟨rfl, rfl, rfl, lk_int rfl (by omega), trivial⟩ (fun _ h => h.mm (by simp)) ?_
    intro k hk
    refine hc_seq ?_
    refine hc_seq ?_
    refine hc_region ?_
    refine hl_y rfl rfl rfl (y_move rfl rfl) ?_
    refine hl_y rfl rfl rfl (y_lssn (q := 16) rfl rfl rfl ) ?_
    refine hl_nil ?_
    refine hq_then ?_
    refine hc_if rfl (fun c1 => ?_) (fun c1 => ?_)
    · replace c1 := of_decide_eq_true c1
      refine hc_skip ?_
      refine hq_then ?_
      refine hc_seq ?_
      refine hc_block ?_
      refine hc_seq ?_
      refine hc_region ?_
      refine hl_y rfl rfl rfl (y_move rfl rfl) ?_
      refine hl_y rfl rfl rfl (y_move rfl rfl) ?_
      refine hl_y rfl rfl rfl (y_muln (p := 4) rfl rfl rfl (by omega)) ?_
      refine hl_y rfl rfl rfl (y_move rfl rfl) ?_
      refine hl_y rfl rfl rfl (y_muln (p := 4) rfl rfl rfl (by omega)) ?_
      refine hl_y rfl rfl rfl (y_addn (q := 4) rfl rfl rfl (by omega)) ?_
      refine hl_y rfl rfl rfl (y_slc2 rfl S22 rfl (rdF hv) rfl rfl (by omega) (by first | omega | (simp only [ls_len, ns_len]; omega) | (simp only [List.length_take, List.length_drop, ls_len, ns_len]; omega))) ?_
      refine hl_i rfl rfl rfl (e_call0 rfl F66 rfl (fun w hw => r01_Get_ct _ _ w (((rdQ2 (rdF hv) (lo := (4 * k)) (hi := ((4 * k) + 4)) (n := 4) (by omega) (by omega))) w hw) (by first | omega | (simp only [List.length_take, List.length_drop]; omega)) (by first | omega | (simp only [List.length_take, List.length_drop]; omega))) rfl) ?_; intro _
      refine hl_y rfl rfl rfl (y_move rfl rfl) ?_
      refine hl_y rfl rfl rfl (y_extract rfl rfl rfl) ?_
      refine hl_y rfl rfl rfl (y_extract rfl rfl rfl) ?_
      refine hl_y rfl rfl rfl (y_assign rfl rfl) ?_
      refine hl_y rfl rfl rfl (y_assign rfl rfl) ?_
      refine hl_nil ?_
      refine hq_then ?_
      refine hc_region ?_
      refine hl_y rfl rfl rfl (y_move rfl rfl) ?_
      refine hl_y rfl rfl rfl (y_move rfl rfl) ?_
      refine hl_y rfl rfl rfl (y_conv rfl U45 U28 rfl (conv_qw _)) ?_
      refine hl_y rfl rfl rfl (y_ixa1 rfl T31 O28 rfl rfl (by omega)) ?_
      refine hl_i0 rfl rfl (e_stn 0 rfl O28.2 rfl rfl rfl rfl (by omega)) ?_; intro _
      refine hl_nil ?_
      refine hq_in (hq_then ?_)
      refine hc_region ?_
      refine hl_y rfl rfl rfl (y_move rfl rfl) ?_
      refine hl_y rfl rfl rfl (y_addn (q := 1) rfl rfl rfl (by omega)) ?_
      refine hl_y rfl rfl rfl (y_assign rfl rfl) ?_
      refine hl_nil ?_
      exact hq_round (k + 1) (by omega) (by omega) ⟨rfl, rfl, rfl, lk_int rfl (by omega), trivial⟩ (fun _ h => Mm.set h 0 rfl (ns_step (f := sch l) (g := fun _ => 0) (sch_lo (by omega)).symm))
    · replace c1 := of_decide_eq_false c1
      refine hc_exit ?_
      refine hq_then_exit (hq_loop_exit (hq_in_same (hq_then ?_)))
      refine hc_seq ?_
      refine hc_seq ?_
      refine hc_region ?_
      refine hl_y rfl rfl rfl (y_assign (v := vi 16) rfl rfl) ?_
      refine hl_nil ?_
      refine hq_then ?_
      refine hc_block ?_
      refine hc_loop (fun k => 16 ≤ k ∧ k ≤ 64) (fun k => 64 - k) (fun k => [(2, .pointer (some ⟨g2, 0, none⟩)), (3, .pointer (some ⟨g3, 0, none⟩)), (7, vi k)]) (fun k => Mm w [.blk g3 31 (ns vw 64 (fun i => if i < k then sch l i else 0)), .blk g2 31 (ns vw 64 (fun _ => 0))]) (16) ⟨by omega, by omega⟩ ⟨rfl, rfl, lk_int rfl (by omega), trivial⟩ (fun _ h => h.mm (by rw [show k = 16 from by omega])) ?_
      intro k hk
      refine hc_seq ?_
      refine hc_seq ?_
      refine hc_region ?_
      refine hl_y rfl rfl rfl (y_move rfl rfl) ?_
      refine hl_y rfl rfl rfl (y_lssn (q := 64) rfl rfl rfl ) ?_
      refine hl_nil ?_
      refine hq_then ?_
      refine hc_if rfl (fun c2 => ?_) (fun c2 => ?_)
      · replace c2 := of_decide_eq_true c2
        refine hc_skip ?_
        refine hq_then ?_
        refine hc_seq ?_
        refine hc_block ?_
        refine hc_seq ?_
        refine hc_drawP [0, 1] follows_mixed ?_
        refine hh_y 0 rfl rfl rfl rfl (by kernel_rfl) (by kernel_rfl) (by kernel_rfl) (fun _ h => Mm.pick h [0, 1] (by decide)) (y_move rfl rfl) ?_
        refine hh_y 1 rfl rfl rfl rfl (by kernel_rfl) (by kernel_rfl) (by kernel_rfl) (fun _ h => Mm.pick h [0, 1] (by decide)) (y_subn (q := 2) rfl rfl rfl (by omega) (by omega)) ?_
        refine hh_y 2 rfl rfl rfl rfl (by kernel_rfl) (by kernel_rfl) (by kernel_rfl) (fun _ h => Mm.pick h [0, 1] (by decide)) (y_ixa1 rfl T31 O28 rfl rfl (by omega)) ?_
        refine hh_y 3 rfl rfl rfl rfl (by kernel_rfl) (by kernel_rfl) (by kernel_rfl) (fun _ h => Mm.pick h [0, 1] (by decide)) (y_as (y_ldn 0 rfl O28 rfl rfl (by omega)) (congrArg vw (if_pos (by omega)))) ?_
        refine hh_y 4 rfl rfl rfl rfl (by kernel_rfl) (by kernel_rfl) (by kernel_rfl) (fun _ h => Mm.pick h [0, 1] (by decide)) (y_move rfl rfl) ?_
        refine hh_y 5 rfl rfl rfl rfl (by kernel_rfl) (by kernel_rfl) (by kernel_rfl) (fun _ h => Mm.pick h [0, 1] (by decide)) (y_subn (q := 15) rfl rfl rfl (by omega) (by omega)) ?_
        refine hh_y 6 rfl rfl rfl rfl (by kernel_rfl) (by kernel_rfl) (by kernel_rfl) (fun _ h => Mm.pick h [0, 1] (by decide)) (y_ixa1 rfl T31 O28 rfl rfl (by omega)) ?_
        refine hh_y 7 rfl rfl rfl rfl (by kernel_rfl) (by kernel_rfl) (by kernel_rfl) (fun _ h => Mm.pick h [0, 1] (by decide)) (y_as (y_ldn 0 rfl O28 rfl rfl (by omega)) (congrArg vw (if_pos (by omega)))) ?_
        refine hh_y 8 rfl rfl rfl rfl (by kernel_rfl) (by kernel_rfl) (by kernel_rfl) (fun _ h => Mm.pick h [0, 1] (by decide)) (y_assign rfl rfl) ?_
        refine hh_y 9 rfl rfl rfl rfl (by kernel_rfl) (by kernel_rfl) (by kernel_rfl) (fun _ h => Mm.pick h [0, 1] (by decide)) (y_assign rfl rfl) ?_
        refine hh_done (by kernel_rfl) ?_
        refine hq_then ?_
        refine hc_draw (fun w2 => ∃ x : UInt32, Mm w [.blk g3 31 (ns vw 64 (upd (fun i => if i < k then sch l i else 0) k x))] w2) follows_mixed ?_
        refine hh_y 0 rfl rfl rfl rfl (by kernel_rfl) (by kernel_rfl) (by kernel_rfl) (fun _ h => ⟨(fun i => if i < k then sch l i else 0) k, (Mm.pick h [0] (by decide)).set 0 rfl (by rw [show upd (fun i => if i < k then sch l i else 0) k ((fun i => if i < k then sch l i else 0) k) = _ from upd_self])⟩) (yl_ex fun x_ => y_move rfl rfl) ?_
        refine hh_y 1 rfl rfl rfl rfl (by kernel_rfl) (by kernel_rfl) (by kernel_rfl) (fun _ h => ⟨(fun i => if i < k then sch l i else 0) k, (Mm.pick h [0] (by decide)).set 0 rfl (by rw [show upd (fun i => if i < k then sch l i else 0) k ((fun i => if i < k then sch l i else 0) k) = _ from upd_self])⟩) (yl_ex fun x_ => y_move rfl rfl) ?_
        refine hh_y 3 rfl rfl rfl rfl (by kernel_rfl) (by kernel_rfl) (by kernel_rfl) (fun _ h => ⟨(fun i => if i < k then sch l i else 0) k, (Mm.pick h [0] (by decide)).set 0 rfl (by rw [show upd (fun i => if i < k then sch l i else 0) k ((fun i => if i < k then sch l i else 0) k) = _ from upd_self])⟩) (yl_ex fun x_ => y_move rfl rfl) ?_
        refine hh_y 6 rfl rfl rfl rfl (by kernel_rfl) (by kernel_rfl) (by kernel_rfl) (fun _ h => ⟨(fun i => if i < k then sch l i else 0) k, (Mm.pick h [0] (by decide)).set 0 rfl (by rw [show upd (fun i => if i < k then sch l i else 0) k ((fun i => if i < k then sch l i else 0) k) = _ from upd_self])⟩) (yl_ex fun x_ => y_move rfl rfl) ?_
        refine hh_y 7 rfl rfl rfl rfl (by kernel_rfl) (by kernel_rfl) (by kernel_rfl) (fun _ h => ⟨(fun i => if i < k then sch l i else 0) k, (Mm.pick h [0] (by decide)).set 0 rfl (by rw [show upd (fun i => if i < k then sch l i else 0) k ((fun i => if i < k then sch l i else 0) k) = _ from upd_self])⟩) (yl_ex fun x_ => y_shrw (m := 10) rfl rfl rfl rfl (by omega)) ?_
        refine hh_y 9 rfl rfl rfl rfl (by kernel_rfl) (by kernel_rfl) (by kernel_rfl) (fun _ h => ⟨(fun i => if i < k then sch l i else 0) k, (Mm.pick h [0] (by decide)).set 0 rfl (by rw [show upd (fun i => if i < k then sch l i else 0) k ((fun i => if i < k then sch l i else 0) k) = _ from upd_self])⟩) (yl_ex fun x_ => y_move rfl rfl) ?_
        refine hh_y 10 rfl rfl rfl rfl (by kernel_rfl) (by kernel_rfl) (by kernel_rfl) (fun _ h => ⟨(fun i => if i < k then sch l i else 0) k, (Mm.pick h [0] (by decide)).set 0 rfl (by rw [show upd (fun i => if i < k then sch l i else 0) k ((fun i => if i < k then sch l i else 0) k) = _ from upd_self])⟩) (yl_ex fun x_ => y_subn (q := 7) rfl rfl rfl (by omega) (by omega)) ?_
        refine hh_y 11 rfl rfl rfl rfl (by kernel_rfl) (by kernel_rfl) (by kernel_rfl) (fun _ h => ⟨(fun i => if i < k then sch l i else 0) k, (Mm.pick h [0] (by decide)).set 0 rfl (by rw [show upd (fun i => if i < k then sch l i else 0) k ((fun i => if i < k then sch l i else 0) k) = _ from upd_self])⟩) (yl_ex fun x_ => y_ixa1 rfl T31 O28 rfl rfl (by omega)) ?_
        refine hh_y 12 rfl rfl rfl rfl (by kernel_rfl) (by kernel_rfl) (by kernel_rfl) (fun _ h => ⟨(fun i => if i < k then sch l i else 0) k, (Mm.pick h [0] (by decide)).set 0 rfl (by rw [show upd (fun i => if i < k then sch l i else 0) k ((fun i => if i < k then sch l i else 0) k) = _ from upd_self])⟩) (yl_ex fun x_ => y_as (y_ldn 0 rfl O28 rfl rfl (by omega)) (congrArg vw ((if_neg (by omega)).trans (if_pos (by omega))))) ?_
        refine hh_y 14 rfl rfl rfl rfl (by kernel_rfl) (by kernel_rfl) (by kernel_rfl) (fun _ h => ⟨(fun i => if i < k then sch l i else 0) k, (Mm.pick h [0] (by decide)).set 0 rfl (by rw [show upd (fun i => if i < k then sch l i else 0) k ((fun i => if i < k then sch l i else 0) k) = _ from upd_self])⟩) (yl_ex fun x_ => y_move rfl rfl) ?_
        refine hh_y 16 rfl rfl rfl rfl (by kernel_rfl) (by kernel_rfl) (by kernel_rfl) (fun _ h => ⟨(fun i => if i < k then sch l i else 0) k, (Mm.pick h [0] (by decide)).set 0 rfl (by rw [show upd (fun i => if i < k then sch l i else 0) k ((fun i => if i < k then sch l i else 0) k) = _ from upd_self])⟩) (yl_ex fun x_ => y_move rfl rfl) ?_
        refine hh_y 19 rfl rfl rfl rfl (by kernel_rfl) (by kernel_rfl) (by kernel_rfl) (fun _ h => ⟨(fun i => if i < k then sch l i else 0) k, (Mm.pick h [0] (by decide)).set 0 rfl (by rw [show upd (fun i => if i < k then sch l i else 0) k ((fun i => if i < k then sch l i else 0) k) = _ from upd_self])⟩) (yl_ex fun x_ => y_move rfl rfl) ?_
        refine hh_y 20 rfl rfl rfl rfl (by kernel_rfl) (by kernel_rfl) (by kernel_rfl) (fun _ h => ⟨(fun i => if i < k then sch l i else 0) k, (Mm.pick h [0] (by decide)).set 0 rfl (by rw [show upd (fun i => if i < k then sch l i else 0) k ((fun i => if i < k then sch l i else 0) k) = _ from upd_self])⟩) (yl_ex fun x_ => y_shrw (m := 3) rfl rfl rfl rfl (by omega)) ?_
        refine hh_y 23 rfl rfl rfl rfl (by kernel_rfl) (by kernel_rfl) (by kernel_rfl) (fun _ h => ⟨(fun i => if i < k then sch l i else 0) k, (Mm.pick h [0] (by decide)).set 0 rfl (by rw [show upd (fun i => if i < k then sch l i else 0) k ((fun i => if i < k then sch l i else 0) k) = _ from upd_self])⟩) (yl_ex fun x_ => y_move rfl rfl) ?_
        refine hh_y 24 rfl rfl rfl rfl (by kernel_rfl) (by kernel_rfl) (by kernel_rfl) (fun _ h => ⟨(fun i => if i < k then sch l i else 0) k, (Mm.pick h [0] (by decide)).set 0 rfl (by rw [show upd (fun i => if i < k then sch l i else 0) k ((fun i => if i < k then sch l i else 0) k) = _ from upd_self])⟩) (yl_ex fun x_ => y_subn (q := 16) rfl rfl rfl (by omega) (by omega)) ?_
        refine hh_y 25 rfl rfl rfl rfl (by kernel_rfl) (by kernel_rfl) (by kernel_rfl) (fun _ h => ⟨(fun i => if i < k then sch l i else 0) k, (Mm.pick h [0] (by decide)).set 0 rfl (by rw [show upd (fun i => if i < k then sch l i else 0) k ((fun i => if i < k then sch l i else 0) k) = _ from upd_self])⟩) (yl_ex fun x_ => y_ixa1 rfl T31 O28 rfl rfl (by omega)) ?_
        refine hh_y 26 rfl rfl rfl rfl (by kernel_rfl) (by kernel_rfl) (by kernel_rfl) (fun _ h => ⟨(fun i => if i < k then sch l i else 0) k, (Mm.pick h [0] (by decide)).set 0 rfl (by rw [show upd (fun i => if i < k then sch l i else 0) k ((fun i => if i < k then sch l i else 0) k) = _ from upd_self])⟩) (yl_ex fun x_ => y_as (y_ldn 0 rfl O28 rfl rfl (by omega)) (congrArg vw ((if_neg (by omega)).trans (if_pos (by omega))))) ?_
        refine hh_i 2 rfl rfl rfl rfl (by kernel_rfl) (e_call0 rfl F67 rfl (fun w hw => r07_right_ct _ 17 (by omega) (by omega) w) rfl) (fun _ _ h => ⟨(fun i => if i < k then sch l i else 0) k, (Mm.pick h [0] (by decide)).set 0 rfl (by rw [show upd (fun i => if i < k then sch l i else 0) k ((fun i => if i < k then sch l i else 0) k) = _ from upd_self])⟩) ?_; intro _
        refine hh_i 4 rfl rfl rfl rfl (by kernel_rfl) (e_call0 rfl F67 rfl (fun w hw => r07_right_ct _ 19 (by omega) (by omega) w) rfl) (fun _ _ h => ⟨(fun i => if i < k then sch l i else 0) k, (Mm.pick h [0] (by decide)).set 0 rfl (by rw [show upd (fun i => if i < k then sch l i else 0) k ((fun i => if i < k then sch l i else 0) k) = _ from upd_self])⟩) ?_; intro _
        refine hh_y 5 rfl rfl rfl rfl (by kernel_rfl) (by kernel_rfl) (by kernel_rfl) (fun _ h => ⟨(fun i => if i < k then sch l i else 0) k, (Mm.pick h [0] (by decide)).set 0 rfl (by rw [show upd (fun i => if i < k then sch l i else 0) k ((fun i => if i < k then sch l i else 0) k) = _ from upd_self])⟩) (yl_ex fun x_ => y_xorw rfl rfl rfl) ?_
        refine hh_y 8 rfl rfl rfl rfl (by kernel_rfl) (by kernel_rfl) (by kernel_rfl) (fun _ h => ⟨(fun i => if i < k then sch l i else 0) k, (Mm.pick h [0] (by decide)).set 0 rfl (by rw [show upd (fun i => if i < k then sch l i else 0) k ((fun i => if i < k then sch l i else 0) k) = _ from upd_self])⟩) (yl_ex fun x_ => y_xorw rfl rfl rfl) ?_
        refine hh_y 13 rfl rfl rfl rfl (by kernel_rfl) (by kernel_rfl) (by kernel_rfl) (fun _ h => ⟨(fun i => if i < k then sch l i else 0) k, (Mm.pick h [0] (by decide)).set 0 rfl (by rw [show upd (fun i => if i < k then sch l i else 0) k ((fun i => if i < k then sch l i else 0) k) = _ from upd_self])⟩) (yl_ex fun x_ => y_addw rfl rfl rfl) ?_
        refine hh_i 15 rfl rfl rfl rfl (by kernel_rfl) (e_call0 rfl F67 rfl (fun w hw => r07_right_ct _ 7 (by omega) (by omega) w) rfl) (fun _ _ h => ⟨(fun i => if i < k then sch l i else 0) k, (Mm.pick h [0] (by decide)).set 0 rfl (by rw [show upd (fun i => if i < k then sch l i else 0) k ((fun i => if i < k then sch l i else 0) k) = _ from upd_self])⟩) ?_; intro _
        refine hh_i 17 rfl rfl rfl rfl (by kernel_rfl) (e_call0 rfl F67 rfl (fun w hw => r07_right_ct _ 18 (by omega) (by omega) w) rfl) (fun _ _ h => ⟨(fun i => if i < k then sch l i else 0) k, (Mm.pick h [0] (by decide)).set 0 rfl (by rw [show upd (fun i => if i < k then sch l i else 0) k ((fun i => if i < k then sch l i else 0) k) = _ from upd_self])⟩) ?_; intro _
        refine hh_y 18 rfl rfl rfl rfl (by kernel_rfl) (by kernel_rfl) (by kernel_rfl) (fun _ h => ⟨(fun i => if i < k then sch l i else 0) k, (Mm.pick h [0] (by decide)).set 0 rfl (by rw [show upd (fun i => if i < k then sch l i else 0) k ((fun i => if i < k then sch l i else 0) k) = _ from upd_self])⟩) (yl_ex fun x_ => y_xorw rfl rfl rfl) ?_
        refine hh_y 21 rfl rfl rfl rfl (by kernel_rfl) (by kernel_rfl) (by kernel_rfl) (fun _ h => ⟨(fun i => if i < k then sch l i else 0) k, (Mm.pick h [0] (by decide)).set 0 rfl (by rw [show upd (fun i => if i < k then sch l i else 0) k ((fun i => if i < k then sch l i else 0) k) = _ from upd_self])⟩) (yl_ex fun x_ => y_xorw rfl rfl rfl) ?_
        refine hh_y 22 rfl rfl rfl rfl (by kernel_rfl) (by kernel_rfl) (by kernel_rfl) (fun _ h => ⟨(fun i => if i < k then sch l i else 0) k, (Mm.pick h [0] (by decide)).set 0 rfl (by rw [show upd (fun i => if i < k then sch l i else 0) k ((fun i => if i < k then sch l i else 0) k) = _ from upd_self])⟩) (yl_ex fun x_ => y_addw rfl rfl rfl) ?_
        refine hh_y 27 rfl rfl rfl rfl (by kernel_rfl) (by kernel_rfl) (by kernel_rfl) (fun _ h => ⟨(fun i => if i < k then sch l i else 0) k, (Mm.pick h [0] (by decide)).set 0 rfl (by rw [show upd (fun i => if i < k then sch l i else 0) k ((fun i => if i < k then sch l i else 0) k) = _ from upd_self])⟩) (yl_ex fun x_ => y_addw rfl rfl rfl) ?_
        refine hh_y 28 rfl rfl rfl rfl (by kernel_rfl) (by kernel_rfl) (by kernel_rfl) (fun _ h => ⟨(fun i => if i < k then sch l i else 0) k, (Mm.pick h [0] (by decide)).set 0 rfl (by rw [show upd (fun i => if i < k then sch l i else 0) k ((fun i => if i < k then sch l i else 0) k) = _ from upd_self])⟩) (yl_ex fun x_ => y_ixa1 rfl T31 O28 rfl rfl (by omega)) ?_
        refine hh_i0 29 rfl rfl rfl (by kernel_rfl) (e_stn 0 rfl O28.2 rfl rfl rfl rfl (by omega)) (fun _ _ h => ⟨_, Mm.pick h [0] (by decide)⟩) ?_; intro _
        refine hh_done (by kernel_rfl) ?_
        refine hq_in (hq_then ?_)
        refine hc_region ?_
        refine hl_y rfl rfl rfl (y_move rfl rfl) ?_
        refine hl_y rfl rfl rfl (y_addn (q := 1) rfl rfl rfl (by omega)) ?_
        refine hl_y rfl rfl rfl (y_assign rfl rfl) ?_
        refine hl_nil ?_
        exact hq_round (k + 1) (by omega) ⟨by omega, by omega⟩ ⟨rfl, rfl, lk_int rfl (by omega), trivial⟩ (fun _ h => Mm.set h 0 rfl (ns_step (f := sch l) (g := fun _ => 0) (sch_hi (by omega)).symm))
      · replace c2 := of_decide_eq_false c2
        refine hc_exit ?_
        refine hq_then_exit (hq_loop_exit (hq_in_same (hq_then ?_)))
        refine hc_seq ?_
        refine hc_region ?_
        refine hl_y rfl rfl rfl (y_ldw 0 rfl T31 rfl rfl) ?_
        refine hl_i0 rfl rfl (e_stw 1 rfl T31.2 rfl rfl rfl (ns_onew _ _)) ?_; intro _
        refine hl_nil ?_
        refine hq_then ?_
        refine hc_ret ?_
        exact hq_ret1 (()) rfl (rv_arr 1 rfl T31 rfl (ns_len _ _).symm) (by rw [ns_full (by omega), wordsF, if_pos c0]) (fun _ h => Mm.pick h [] (by simp))

set_option maxHeartbeats 1000000 in
theorem r07_With_ct (hf : Nat → UInt32) (l : List UInt8) (v : Value)  (w : World) (hv : Rd w v (ls vb l)) : Ct0 Tryd.prog 26 #[.agg (ns vw 64 (kT)).toArray, .agg (ns vw 8 (hf)).toArray, v] w (.agg (ns vw 8 (blockF hf l)).toArray) := by
  refine ct0_of Tryd.func26 rfl Tryd.ntmps26 rfl ?_
  refine hc_seq ?_
  refine hc_region ?_
  refine hl_i rfl rfl rfl (e_boxa rfl rfl) ?_; intro g3
  refine hl_i rfl rfl rfl (e_boxa rfl rfl) ?_; intro g4
  refine hl_i rfl rfl rfl (e_alloc rfl Z29) ?_; intro g6
  refine hl_nil ?_
  refine hq_then ?_
  refine hc_seq ?_
  refine hc_seq ?_
  refine hc_region ?_
  refine hl_y rfl rfl rfl (y_move rfl rfl) ?_
  refine hl_y rfl rfl rfl (y_lenE (l.length) rfl rfl S22 rfl (rdF hv) (by first | rfl | simp only [ls_len, ns_len] | (simp only [ls_len, ns_len]; omega))) ?_
  refine hl_y rfl rfl rfl (y_neqn (q := 64) rfl rfl rfl ) ?_
  refine hl_nil ?_
  refine hq_then ?_
  refine hc_if rfl (fun c0 => ?_) (fun c0 => ?_)
  · replace c0 := of_decide_eq_true c0
    refine hc_seq ?_
    refine hc_region ?_
    refine hl_y rfl rfl rfl (y_ldw 1 rfl T29 rfl rfl) ?_
    refine hl_i0 rfl rfl (e_stw 0 rfl T29.2 rfl rfl rfl (ns_onew _ _)) ?_; intro _
    refine hl_nil ?_
    refine hq_then ?_
    refine hc_ret ?_
    exact hq_then_ret (hq_ret1 (()) rfl (rv_arr 0 rfl T29 rfl (ns_len _ _).symm) (by rw [blockF, if_neg c0]) (fun _ h => Mm.pick h [] (by simp)))
  · replace c0 := of_decide_eq_false c0
    replace c0 := Decidable.not_not.1 c0
    refine hc_skip ?_
    refine hq_then ?_
    refine hc_seq ?_
    refine hc_region ?_
    refine hl_y rfl rfl rfl (y_move rfl rfl) ?_
    refine hl_i rfl rfl rfl (e_call0 rfl F24 rfl (fun w hw => r07_Words_ct _ _ w ((rdF hv) w hw)) rfl) ?_; intro _
    refine hl_i rfl rfl rfl (e_alloc rfl Z31) ?_; intro g7
    refine hl_i0 rfl rfl (e_stw 0 rfl T31.2 rfl rfl rfl (ns_onew _ _)) ?_; intro _
    refine hl_nil ?_
    refine hq_then ?_
    refine hc_seq ?_
    refine hc_region ?_
    refine hl_y rfl rfl rfl (y_ldw 2 rfl T29 rfl rfl) ?_
    refine hl_i rfl rfl rfl (e_alloc rfl Z29) ?_; intro g8
    refine hl_i0 rfl rfl (e_stw 0 rfl T29.2 rfl rfl rfl (ns_onew _ _)) ?_; intro _
    refine hl_nil ?_
    refine hq_then ?_
    refine hc_seq ?_
    refine hc_seq ?_
    refine hc_region ?_
    refine hl_y rfl rfl rfl (y_assign (v := vi 0) rfl rfl) ?_
    refine hl_nil ?_
    refine hq_then ?_
    refine hc_block ?_
    refine hc_loop (fun k => k ≤ 64) (fun k => 64 - k) (fun k => [(3, .pointer (some ⟨g3, 0, none⟩)), (4, .pointer (some ⟨g4, 0, none⟩)), (6, .pointer (some ⟨g6, 0, none⟩)), (7, .pointer (some ⟨g7, 0, none⟩)), (8, .pointer (some ⟨g8, 0, none⟩)), (9, vi k)]) (fun k => Mm w [.blk g8 29 (ns vw 8 (blkS l hf k)), .blk g7 31 (ns vw 64 (sch l)), .blk g6 29 (ns vw 8 (fun _ => 0)), .blk g4 29 (ns vw 8 hf), .blk g3 31 (ns vw 64 kT)]) (0) (by omega) ⟨rfl, rfl, rfl, rfl, rfl, lk_int rfl (by omega), trivial⟩ (fun _ h => Mm.set h 1 rfl (by rw [wordsF, if_pos c0])) ?_
    intro k hk
    refine hc_seq ?_
    refine hc_seq ?_
    refine hc_region ?_
    refine hl_y rfl rfl rfl (y_move rfl rfl) ?_
    refine hl_y rfl rfl rfl (y_lssn (q := 64) rfl rfl rfl ) ?_
    refine hl_nil ?_
    refine hq_then ?_
    refine hc_if rfl (fun c1 => ?_) (fun c1 => ?_)
    · replace c1 := of_decide_eq_true c1
      refine hc_skip ?_
      refine hq_then ?_
      refine hc_seq ?_
      refine hc_block ?_
      refine hc_seq ?_
      refine hc_drawP [0, 1, 2, 3, 4] follows_mixed ?_
      refine hh_y 0 rfl rfl rfl rfl (by kernel_rfl) (by kernel_rfl) (by kernel_rfl) (fun _ h => Mm.pick h [0, 1, 2, 3, 4] (by decide)) (y_ixa1 (k := 0) rfl T29 O28 rfl rfl (by omega)) ?_
      refine hh_y 1 rfl rfl rfl rfl (by kernel_rfl) (by kernel_rfl) (by kernel_rfl) (fun _ h => Mm.pick h [0, 1, 2, 3, 4] (by decide)) (y_ldn 0 rfl O28 rfl rfl (by omega)) ?_
      refine hh_y 2 rfl rfl rfl rfl (by kernel_rfl) (by kernel_rfl) (by kernel_rfl) (fun _ h => Mm.pick h [0, 1, 2, 3, 4] (by decide)) (y_ixa1 (k := 4) rfl T29 O28 rfl rfl (by omega)) ?_
      refine hh_y 3 rfl rfl rfl rfl (by kernel_rfl) (by kernel_rfl) (by kernel_rfl) (fun _ h => Mm.pick h [0, 1, 2, 3, 4] (by decide)) (y_ldn 0 rfl O28 rfl rfl (by omega)) ?_
      refine hh_y 4 rfl rfl rfl rfl (by kernel_rfl) (by kernel_rfl) (by kernel_rfl) (fun _ h => Mm.pick h [0, 1, 2, 3, 4] (by decide)) (y_assign rfl rfl) ?_
      refine hh_y 5 rfl rfl rfl rfl (by kernel_rfl) (by kernel_rfl) (by kernel_rfl) (fun _ h => Mm.pick h [0, 1, 2, 3, 4] (by decide)) (y_assign rfl rfl) ?_
      refine hh_done (by kernel_rfl) ?_
      refine hq_then ?_
      refine hc_seq ?_
      refine hc_drawP [0, 1, 2, 3, 4] follows_mixed ?_
      refine hh_y 0 rfl rfl rfl rfl (by kernel_rfl) (by kernel_rfl) (by kernel_rfl) (fun _ h => Mm.pick h [0, 1, 2, 3, 4] (by decide)) (y_ixa1 (k := 7) rfl T29 O28 rfl rfl (by omega)) ?_
      refine hh_y 1 rfl rfl rfl rfl (by kernel_rfl) (by kernel_rfl) (by kernel_rfl) (fun _ h => Mm.pick h [0, 1, 2, 3, 4] (by decide)) (y_ldn 0 rfl O28 rfl rfl (by omega)) ?_
      refine hh_y 2 rfl rfl rfl rfl (by kernel_rfl) (by kernel_rfl) (by kernel_rfl) (fun _ h => Mm.pick h [0, 1, 2, 3, 4] (by decide)) (y_move rfl rfl) ?_
      refine hh_y 4 rfl rfl rfl rfl (by kernel_rfl) (by kernel_rfl) (by kernel_rfl) (fun _ h => Mm.pick h [0, 1, 2, 3, 4] (by decide)) (y_move rfl rfl) ?_
      refine hh_y 7 rfl rfl rfl rfl (by kernel_rfl) (by kernel_rfl) (by kernel_rfl) (fun _ h => Mm.pick h [0, 1, 2, 3, 4] (by decide)) (y_move rfl rfl) ?_
      refine hh_y 11 rfl rfl rfl rfl (by kernel_rfl) (by kernel_rfl) (by kernel_rfl) (fun _ h => Mm.pick h [0, 1, 2, 3, 4] (by decide)) (y_move rfl rfl) ?_
      refine hh_y 12 rfl rfl rfl rfl (by kernel_rfl) (by kernel_rfl) (by kernel_rfl) (fun _ h => Mm.pick h [0, 1, 2, 3, 4] (by decide)) (y_ixa1 (k := 5) rfl T29 O28 rfl rfl (by omega)) ?_
      refine hh_y 13 rfl rfl rfl rfl (by kernel_rfl) (by kernel_rfl) (by kernel_rfl) (fun _ h => Mm.pick h [0, 1, 2, 3, 4] (by decide)) (y_ldn 0 rfl O28 rfl rfl (by omega)) ?_
      refine hh_y 14 rfl rfl rfl rfl (by kernel_rfl) (by kernel_rfl) (by kernel_rfl) (fun _ h => Mm.pick h [0, 1, 2, 3, 4] (by decide)) (y_andw rfl rfl rfl) ?_
      refine hh_y 15 rfl rfl rfl rfl (by kernel_rfl) (by kernel_rfl) (by kernel_rfl) (fun _ h => Mm.pick h [0, 1, 2, 3, 4] (by decide)) (y_move rfl rfl) ?_
      refine hh_y 16 rfl rfl rfl rfl (by kernel_rfl) (by kernel_rfl) (by kernel_rfl) (fun _ h => Mm.pick h [0, 1, 2, 3, 4] (by decide)) (y_cmplw rfl rfl) ?_
      refine hh_y 17 rfl rfl rfl rfl (by kernel_rfl) (by kernel_rfl) (by kernel_rfl) (fun _ h => Mm.pick h [0, 1, 2, 3, 4] (by decide)) (y_ixa1 (k := 6) rfl T29 O28 rfl rfl (by omega)) ?_
      refine hh_y 18 rfl rfl rfl rfl (by kernel_rfl) (by kernel_rfl) (by kernel_rfl) (fun _ h => Mm.pick h [0, 1, 2, 3, 4] (by decide)) (y_ldn 0 rfl O28 rfl rfl (by omega)) ?_
      refine hh_y 19 rfl rfl rfl rfl (by kernel_rfl) (by kernel_rfl) (by kernel_rfl) (fun _ h => Mm.pick h [0, 1, 2, 3, 4] (by decide)) (y_andw rfl rfl rfl) ?_
      refine hh_y 20 rfl rfl rfl rfl (by kernel_rfl) (by kernel_rfl) (by kernel_rfl) (fun _ h => Mm.pick h [0, 1, 2, 3, 4] (by decide)) (y_as (y_xorw rfl rfl rfl) (congrArg vw (ch_ref _ _ _))) ?_
      refine hh_y 22 rfl rfl rfl rfl (by kernel_rfl) (by kernel_rfl) (by kernel_rfl) (fun _ h => Mm.pick h [0, 1, 2, 3, 4] (by decide)) (y_move rfl rfl) ?_
      refine hh_y 23 rfl rfl rfl rfl (by kernel_rfl) (by kernel_rfl) (by kernel_rfl) (fun _ h => Mm.pick h [0, 1, 2, 3, 4] (by decide)) (y_ixa1 rfl T31 O28 rfl rfl (by omega)) ?_
      refine hh_y 24 rfl rfl rfl rfl (by kernel_rfl) (by kernel_rfl) (by kernel_rfl) (fun _ h => Mm.pick h [0, 1, 2, 3, 4] (by decide)) (y_ldn 4 rfl O28 rfl rfl (by omega)) ?_
      refine hh_y 26 rfl rfl rfl rfl (by kernel_rfl) (by kernel_rfl) (by kernel_rfl) (fun _ h => Mm.pick h [0, 1, 2, 3, 4] (by decide)) (y_move rfl rfl) ?_
      refine hh_y 27 rfl rfl rfl rfl (by kernel_rfl) (by kernel_rfl) (by kernel_rfl) (fun _ h => Mm.pick h [0, 1, 2, 3, 4] (by decide)) (y_ixa1 rfl T31 O28 rfl rfl (by omega)) ?_
      refine hh_y 28 rfl rfl rfl rfl (by kernel_rfl) (by kernel_rfl) (by kernel_rfl) (fun _ h => Mm.pick h [0, 1, 2, 3, 4] (by decide)) (y_ldn 1 rfl O28 rfl rfl (by omega)) ?_
      refine hh_i 3 rfl rfl rfl rfl (by kernel_rfl) (e_call0 rfl F67 rfl (fun w hw => r07_right_ct _ 6 (by omega) (by omega) w) rfl) (fun _ _ h => Mm.pick h [0, 1, 2, 3, 4] (by decide)) ?_; intro _
      refine hh_i 5 rfl rfl rfl rfl (by kernel_rfl) (e_call0 rfl F67 rfl (fun w hw => r07_right_ct _ 11 (by omega) (by omega) w) rfl) (fun _ _ h => Mm.pick h [0, 1, 2, 3, 4] (by decide)) ?_; intro _
      refine hh_y 6 rfl rfl rfl rfl (by kernel_rfl) (by kernel_rfl) (by kernel_rfl) (fun _ h => Mm.pick h [0, 1, 2, 3, 4] (by decide)) (y_xorw rfl rfl rfl) ?_
      refine hh_i 8 rfl rfl rfl rfl (by kernel_rfl) (e_call0 rfl F67 rfl (fun w hw => r07_right_ct _ 25 (by omega) (by omega) w) rfl) (fun _ _ h => Mm.pick h [0, 1, 2, 3, 4] (by decide)) ?_; intro _
      refine hh_y 9 rfl rfl rfl rfl (by kernel_rfl) (by kernel_rfl) (by kernel_rfl) (fun _ h => Mm.pick h [0, 1, 2, 3, 4] (by decide)) (y_xorw rfl rfl rfl) ?_
      refine hh_y 10 rfl rfl rfl rfl (by kernel_rfl) (by kernel_rfl) (by kernel_rfl) (fun _ h => Mm.pick h [0, 1, 2, 3, 4] (by decide)) (y_addw rfl rfl rfl) ?_
      refine hh_y 21 rfl rfl rfl rfl (by kernel_rfl) (by kernel_rfl) (by kernel_rfl) (fun _ h => Mm.pick h [0, 1, 2, 3, 4] (by decide)) (y_addw rfl rfl rfl) ?_
      refine hh_y 25 rfl rfl rfl rfl (by kernel_rfl) (by kernel_rfl) (by kernel_rfl) (fun _ h => Mm.pick h [0, 1, 2, 3, 4] (by decide)) (y_addw rfl rfl rfl) ?_
      refine hh_y 29 rfl rfl rfl rfl (by kernel_rfl) (by kernel_rfl) (by kernel_rfl) (fun _ h => Mm.pick h [0, 1, 2, 3, 4] (by decide)) (y_addw rfl rfl rfl) ?_
      refine hh_y 30 rfl rfl rfl rfl (by kernel_rfl) (by kernel_rfl) (by kernel_rfl) (fun _ h => Mm.pick h [0, 1, 2, 3, 4] (by decide)) (y_assign rfl rfl) ?_
      refine hh_done (by kernel_rfl) ?_
      refine hq_then ?_
      refine hc_seq ?_
      refine hc_drawP [0, 1, 2, 3, 4] follows_mixed ?_
      refine hh_y 0 rfl rfl rfl rfl (by kernel_rfl) (by kernel_rfl) (by kernel_rfl) (fun _ h => Mm.pick h [0, 1, 2, 3, 4] (by decide)) (y_move rfl rfl) ?_
      refine hh_y 2 rfl rfl rfl rfl (by kernel_rfl) (by kernel_rfl) (by kernel_rfl) (fun _ h => Mm.pick h [0, 1, 2, 3, 4] (by decide)) (y_move rfl rfl) ?_
      refine hh_y 5 rfl rfl rfl rfl (by kernel_rfl) (by kernel_rfl) (by kernel_rfl) (fun _ h => Mm.pick h [0, 1, 2, 3, 4] (by decide)) (y_move rfl rfl) ?_
      refine hh_y 8 rfl rfl rfl rfl (by kernel_rfl) (by kernel_rfl) (by kernel_rfl) (fun _ h => Mm.pick h [0, 1, 2, 3, 4] (by decide)) (y_move rfl rfl) ?_
      refine hh_y 9 rfl rfl rfl rfl (by kernel_rfl) (by kernel_rfl) (by kernel_rfl) (fun _ h => Mm.pick h [0, 1, 2, 3, 4] (by decide)) (y_ixa1 (k := 1) rfl T29 O28 rfl rfl (by omega)) ?_
      refine hh_y 10 rfl rfl rfl rfl (by kernel_rfl) (by kernel_rfl) (by kernel_rfl) (fun _ h => Mm.pick h [0, 1, 2, 3, 4] (by decide)) (y_ldn 0 rfl O28 rfl rfl (by omega)) ?_
      refine hh_y 11 rfl rfl rfl rfl (by kernel_rfl) (by kernel_rfl) (by kernel_rfl) (fun _ h => Mm.pick h [0, 1, 2, 3, 4] (by decide)) (y_andw rfl rfl rfl) ?_
      refine hh_y 12 rfl rfl rfl rfl (by kernel_rfl) (by kernel_rfl) (by kernel_rfl) (fun _ h => Mm.pick h [0, 1, 2, 3, 4] (by decide)) (y_move rfl rfl) ?_
      refine hh_y 13 rfl rfl rfl rfl (by kernel_rfl) (by kernel_rfl) (by kernel_rfl) (fun _ h => Mm.pick h [0, 1, 2, 3, 4] (by decide)) (y_ixa1 (k := 2) rfl T29 O28 rfl rfl (by omega)) ?_
      refine hh_y 14 rfl rfl rfl rfl (by kernel_rfl) (by kernel_rfl) (by kernel_rfl) (fun _ h => Mm.pick h [0, 1, 2, 3, 4] (by decide)) (y_ldn 0 rfl O28 rfl rfl (by omega)) ?_
      refine hh_y 15 rfl rfl rfl rfl (by kernel_rfl) (by kernel_rfl) (by kernel_rfl) (fun _ h => Mm.pick h [0, 1, 2, 3, 4] (by decide)) (y_andw rfl rfl rfl) ?_
      refine hh_y 16 rfl rfl rfl rfl (by kernel_rfl) (by kernel_rfl) (by kernel_rfl) (fun _ h => Mm.pick h [0, 1, 2, 3, 4] (by decide)) (y_xorw rfl rfl rfl) ?_
      refine hh_y 17 rfl rfl rfl rfl (by kernel_rfl) (by kernel_rfl) (by kernel_rfl) (fun _ h => Mm.pick h [0, 1, 2, 3, 4] (by decide)) (y_ixa1 (k := 1) rfl T29 O28 rfl rfl (by omega)) ?_
      refine hh_y 18 rfl rfl rfl rfl (by kernel_rfl) (by kernel_rfl) (by kernel_rfl) (fun _ h => Mm.pick h [0, 1, 2, 3, 4] (by decide)) (y_ldn 0 rfl O28 rfl rfl (by omega)) ?_
      refine hh_y 19 rfl rfl rfl rfl (by kernel_rfl) (by kernel_rfl) (by kernel_rfl) (fun _ h => Mm.pick h [0, 1, 2, 3, 4] (by decide)) (y_ixa1 (k := 2) rfl T29 O28 rfl rfl (by omega)) ?_
      refine hh_y 20 rfl rfl rfl rfl (by kernel_rfl) (by kernel_rfl) (by kernel_rfl) (fun _ h => Mm.pick h [0, 1, 2, 3, 4] (by decide)) (y_ldn 0 rfl O28 rfl rfl (by omega)) ?_
      refine hh_y 21 rfl rfl rfl rfl (by kernel_rfl) (by kernel_rfl) (by kernel_rfl) (fun _ h => Mm.pick h [0, 1, 2, 3, 4] (by decide)) (y_andw rfl rfl rfl) ?_
      refine hh_y 22 rfl rfl rfl rfl (by kernel_rfl) (by kernel_rfl) (by kernel_rfl) (fun _ h => Mm.pick h [0, 1, 2, 3, 4] (by decide)) (y_as (y_xorw rfl rfl rfl) (congrArg vw (maj_ref _ _ _))) ?_
      refine hh_i 1 rfl rfl rfl rfl (by kernel_rfl) (e_call0 rfl F67 rfl (fun w hw => r07_right_ct _ 2 (by omega) (by omega) w) rfl) (fun _ _ h => Mm.pick h [0, 1, 2, 3, 4] (by decide)) ?_; intro _
      refine hh_i 3 rfl rfl rfl rfl (by kernel_rfl) (e_call0 rfl F67 rfl (fun w hw => r07_right_ct _ 13 (by omega) (by omega) w) rfl) (fun _ _ h => Mm.pick h [0, 1, 2, 3, 4] (by decide)) ?_; intro _
      refine hh_y 4 rfl rfl rfl rfl (by kernel_rfl) (by kernel_rfl) (by kernel_rfl) (fun _ h => Mm.pick h [0, 1, 2, 3, 4] (by decide)) (y_xorw rfl rfl rfl) ?_
      refine hh_i 6 rfl rfl rfl rfl (by kernel_rfl) (e_call0 rfl F67 rfl (fun w hw => r07_right_ct _ 22 (by omega) (by omega) w) rfl) (fun _ _ h => Mm.pick h [0, 1, 2, 3, 4] (by decide)) ?_; intro _
      refine hh_y 7 rfl rfl rfl rfl (by kernel_rfl) (by kernel_rfl) (by kernel_rfl) (fun _ h => Mm.pick h [0, 1, 2, 3, 4] (by decide)) (y_xorw rfl rfl rfl) ?_
      refine hh_y 23 rfl rfl rfl rfl (by kernel_rfl) (by kernel_rfl) (by kernel_rfl) (fun _ h => Mm.pick h [0, 1, 2, 3, 4] (by decide)) (y_addw rfl rfl rfl) ?_
      refine hh_y 24 rfl rfl rfl rfl (by kernel_rfl) (by kernel_rfl) (by kernel_rfl) (fun _ h => Mm.pick h [0, 1, 2, 3, 4] (by decide)) (y_assign rfl rfl) ?_
      refine hh_done (by kernel_rfl) ?_
      refine hq_then ?_
      refine hc_region ?_
      refine hl_y rfl rfl rfl (y_move rfl rfl) ?_
      refine hl_y rfl rfl rfl (y_move rfl rfl) ?_
      refine hl_y rfl rfl rfl (y_addw rfl rfl rfl) ?_
      refine hl_y rfl rfl rfl (y_ixa1 (k := 0) rfl T29 O28 rfl rfl (by omega)) ?_
      refine hl_y rfl rfl rfl (y_ldn 0 rfl O28 rfl rfl (by omega)) ?_
      refine hl_y rfl rfl rfl (y_ixa1 (k := 1) rfl T29 O28 rfl rfl (by omega)) ?_
      refine hl_y rfl rfl rfl (y_ldn 0 rfl O28 rfl rfl (by omega)) ?_
      refine hl_y rfl rfl rfl (y_ixa1 (k := 2) rfl T29 O28 rfl rfl (by omega)) ?_
      refine hl_y rfl rfl rfl (y_ldn 0 rfl O28 rfl rfl (by omega)) ?_
      refine hl_y rfl rfl rfl (y_ixa1 (k := 3) rfl T29 O28 rfl rfl (by omega)) ?_
      refine hl_y rfl rfl rfl (y_ldn 0 rfl O28 rfl rfl (by omega)) ?_
      refine hl_y rfl rfl rfl (y_move rfl rfl) ?_
      refine hl_y rfl rfl rfl (y_addw rfl rfl rfl) ?_
      refine hl_y rfl rfl rfl (y_ixa1 (k := 4) rfl T29 O28 rfl rfl (by omega)) ?_
      refine hl_y rfl rfl rfl (y_ldn 0 rfl O28 rfl rfl (by omega)) ?_
      refine hl_y rfl rfl rfl (y_ixa1 (k := 5) rfl T29 O28 rfl rfl (by omega)) ?_
      refine hl_y rfl rfl rfl (y_ldn 0 rfl O28 rfl rfl (by omega)) ?_
      refine hl_y rfl rfl rfl (y_ixa1 (k := 6) rfl T29 O28 rfl rfl (by omega)) ?_
      refine hl_y rfl rfl rfl (y_ldn 0 rfl O28 rfl rfl (by omega)) ?_
      refine hl_y rfl rfl rfl (y_bun (rndS (kT k) (sch l k) (blkS l hf k)) vw_1 rfl T29 O28 0 Z29 rfl) ?_
      refine hl_i0 rfl rfl (e_stw 0 rfl T29.2 rfl rfl rfl (ns_onew _ _)) ?_; intro _
      refine hl_nil ?_
      refine hq_in (hq_then ?_)
      refine hc_region ?_
      refine hl_y rfl rfl rfl (y_move rfl rfl) ?_
      refine hl_y rfl rfl rfl (y_addn (q := 1) rfl rfl rfl (by omega)) ?_
      refine hl_y rfl rfl rfl (y_assign rfl rfl) ?_
      refine hl_nil ?_
      exact hq_round (k + 1) (by omega) (by omega) ⟨rfl, rfl, rfl, rfl, rfl, lk_int rfl (by omega), trivial⟩ (fun _ h => h)
    · replace c1 := of_decide_eq_false c1
      refine hc_exit ?_
      refine hq_then_exit (hq_loop_exit (hq_in_same (hq_then ?_)))
      refine hc_seq ?_
      refine hc_seq ?_
      refine hc_region ?_
      refine hl_y rfl rfl rfl (y_assign (v := vi 0) rfl rfl) ?_
      refine hl_nil ?_
      refine hq_then ?_
      refine hc_block ?_
      refine hc_loop (fun k => k ≤ 8) (fun k => 8 - k) (fun k => [(3, .pointer (some ⟨g3, 0, none⟩)), (4, .pointer (some ⟨g4, 0, none⟩)), (6, .pointer (some ⟨g6, 0, none⟩)), (7, .pointer (some ⟨g7, 0, none⟩)), (8, .pointer (some ⟨g8, 0, none⟩)), (14, vi k)]) (fun k => Mm w [.blk g8 29 (ns vw 8 (fun i => if i < k then cmpS hf l i else blkS l hf 64 i)), .blk g7 31 (ns vw 64 (sch l)), .blk g6 29 (ns vw 8 (fun _ => 0)), .blk g4 29 (ns vw 8 hf), .blk g3 31 (ns vw 64 kT)]) (0) (by omega) ⟨rfl, rfl, rfl, rfl, rfl, lk_int rfl (by omega), trivial⟩ (fun _ h => Mm.set h 0 rfl (by rw [show k = 64 from by omega]; exact ns_zero.symm)) ?_
      intro k hk
      refine hc_seq ?_
      refine hc_seq ?_
      refine hc_region ?_
      refine hl_y rfl rfl rfl (y_move rfl rfl) ?_
      refine hl_y rfl rfl rfl (y_lssn (q := 8) rfl rfl rfl ) ?_
      refine hl_nil ?_
      refine hq_then ?_
      refine hc_if rfl (fun c2 => ?_) (fun c2 => ?_)
      · replace c2 := of_decide_eq_true c2
        refine hc_skip ?_
        refine hq_then ?_
        refine hc_seq ?_
        refine hc_block ?_
        refine hc_drawP [3] follows_mixed ?_
        refine hh_y 0 rfl rfl rfl rfl (by kernel_rfl) (by kernel_rfl) (by kernel_rfl) (fun _ h => Mm.pick h [3] (by decide)) (y_move rfl rfl) ?_
        refine hh_y 1 rfl rfl rfl rfl (by kernel_rfl) (by kernel_rfl) (by kernel_rfl) (fun _ h => Mm.pick h [3] (by decide)) (y_move rfl rfl) ?_
        refine hh_y 2 rfl rfl rfl rfl (by kernel_rfl) (by kernel_rfl) (by kernel_rfl) (fun _ h => Mm.pick h [3] (by decide)) (y_ixa1 rfl T29 O28 rfl rfl (by omega)) ?_
        refine hh_y 4 rfl rfl rfl rfl (by kernel_rfl) (by kernel_rfl) (by kernel_rfl) (fun _ h => Mm.pick h [3] (by decide)) (y_move rfl rfl) ?_
        refine hh_y 5 rfl rfl rfl rfl (by kernel_rfl) (by kernel_rfl) (by kernel_rfl) (fun _ h => Mm.pick h [3] (by decide)) (y_ixa1 rfl T29 O28 rfl rfl (by omega)) ?_
        refine hh_y 6 rfl rfl rfl rfl (by kernel_rfl) (by kernel_rfl) (by kernel_rfl) (fun _ h => Mm.pick h [3] (by decide)) (y_ldn 0 rfl O28 rfl rfl (by omega)) ?_
        refine hh_i 3 rfl rfl rfl rfl (by kernel_rfl) (ef_y (y_ldn 0 rfl O28 rfl rfl (by omega))) (fun _ _ h => Mm.pick h [3] (by decide)) ?_; intro _
        refine hh_y 7 rfl rfl rfl rfl (by kernel_rfl) (by kernel_rfl) (by kernel_rfl) (fun _ h => Mm.pick h [3] (by decide)) (y_addw rfl rfl rfl) ?_
        refine hh_y 8 rfl rfl rfl rfl (by kernel_rfl) (by kernel_rfl) (by kernel_rfl) (fun _ h => Mm.pick h [3] (by decide)) (y_ixa1 rfl T29 O28 rfl rfl (by omega)) ?_
        refine hh_i0 9 rfl rfl rfl (by kernel_rfl) (e_stn 0 rfl O28.2 rfl rfl rfl rfl (by omega)) (fun _ _ h => Mm.pick_set h [3] (by decide) (by decide)) ?_; intro _
        refine hh_done (by kernel_rfl) ?_
        refine hq_in (hq_then ?_)
        refine hc_region ?_
        refine hl_y rfl rfl rfl (y_move rfl rfl) ?_
        refine hl_y rfl rfl rfl (y_addn (q := 1) rfl rfl rfl (by omega)) ?_
        refine hl_y rfl rfl rfl (y_assign rfl rfl) ?_
        refine hl_nil ?_
        exact hq_round (k + 1) (by omega) (by omega) ⟨rfl, rfl, rfl, rfl, rfl, lk_int rfl (by omega), trivial⟩ (fun _ h => Mm.set h 0 rfl (ns_step (f := cmpS hf l) (g := blkS l hf 64) (by simp only [Nat.lt_irrefl, if_false]; rfl)))
      · replace c2 := of_decide_eq_false c2
        refine hc_exit ?_
        refine hq_then_exit (hq_loop_exit (hq_in_same (hq_then ?_)))
        refine hc_seq ?_
        refine hc_region ?_
        refine hl_y rfl rfl rfl (y_ldw 0 rfl T29 rfl rfl) ?_
        refine hl_i0 rfl rfl (e_stw 2 rfl T29.2 rfl rfl rfl (ns_onew _ _)) ?_; intro _
        refine hl_nil ?_
        refine hq_then ?_
        refine hc_ret ?_
        exact hq_ret1 (()) rfl (rv_arr 2 rfl T29 rfl (ns_len _ _).symm) (by rw [ns_full (by omega), blockF, if_pos c0]) (fun _ h => Mm.pick h [] (by simp))

theorem r07_Table_ct (w : World) : Ct0 Tryd.prog 27 #[] w (.agg (ns vw 64 (kT)).toArray) := by
  refine ct0_of Tryd.func27 rfl Tryd.ntmps27 rfl ?_
  refine hc_seq ?_
  refine hc_region ?_
  refine hl_i rfl rfl rfl (e_alloc rfl Z31) ?_; intro g0
  refine hl_nil ?_
  refine hq_then ?_
  refine hc_seq ?_
  refine hc_region ?_
  refine hl_y rfl rfl rfl (y_bun kT vw_1 rfl T31 O28 0 Z31 (by kernel_rfl)) ?_
  refine hl_i0 rfl rfl (e_stw 0 rfl T31.2 rfl rfl rfl (ns_onew _ _)) ?_; intro _
  refine hl_nil ?_
  refine hq_then ?_
  refine hc_ret ?_
  exact hq_ret1 (()) rfl (rv_arr 0 rfl T31 rfl (ns_len _ _).symm) rfl (fun _ h => Mm.pick h [] (by simp))

end Go.Proofs.YtcdidapkpfnphaaDoor
