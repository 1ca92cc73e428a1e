/- The laws of texts in sixteen signs: each call gives back true. -/
import Derived.Test.YtcdidapkpfnphaaHexB
import Derived.Test.YtcdidapkpfnphaaPureHex
namespace Go.Proofs.Ytcdidapkpfnphaa
open Go.RowKit
set_option linter.unusedVariables false
set_option linter.unusedSimpArgs false
theorem law04_alive_ct (w : World) : Ct0 Try.prog 14 #[] w (.bool true) := by
  refine ct0_of Try.func14 rfl Try.ntmps14 rfl ?_
  refine hc_seq ?_
  refine hc_region ?_
  refine hl_y rfl rfl rfl (y_assign rfl rfl) ?_
  refine hl_nil ?_
  refine hq_then ?_
  refine hc_seq ?_
  refine hc_region ?_
  refine hl_i rfl rfl rfl (e_lit2 rfl S22 Z1_5 rfl rfl rfl rfl rfl) ?_; intro g1
  refine hl_i rfl rfl rfl (e_call0 rfl F16 rfl (fun w hw => hex_Print_ct [0, 255] _ w ((rdB (xs := ls vb [0, 255]) 0 rfl rfl rfl (by decide)) w hw) (by decide)) rfl) ?_; intro _
  refine hl_y rfl rfl rfl (y_as (y_eqls (q := [48, 48, 102, 102]) rfl rfl rfl) (congrArg Value.bool (decide_eq_true (by decide +kernel)))) ?_
  refine hl_y rfl rfl rfl (y_assign rfl rfl) ?_
  refine hl_nil ?_
  refine hq_then ?_
  refine hc_ret ?_
  exact hq_ret1 (()) rfl (rv_tmp rfl) rfl (fun _ h => Mm.pick h [] (by simp))

set_option maxHeartbeats 1000000 in
theorem hexSizes_p (l : List UInt8) (v : Value) (wd : Nat) (hb : wd ≤ 9223372036854775807) (w : World) (hv : Rd w v (ls vb l)) (hm : l.length ≤ 9223372036854775807) : Ct0 Try.prog 3 #[v, vi wd] w (.bool true) := by
  refine ct0_of Try.func3 rfl Try.ntmps3 rfl ?_
  refine hc_seq ?_
  refine hc_region ?_
  refine hl_y rfl rfl rfl (y_assign rfl rfl) ?_
  refine hl_nil ?_
  refine hq_then ?_
  refine hc_seq ?_
  refine hc_seq ?_
  refine hc_region ?_
  refine hl_y rfl rfl rfl (y_move rfl rfl) ?_
  refine hl_y rfl rfl rfl (y_lenE (l.length) rfl rfl S22 rfl (rdF hv) (by first | rfl | simp only [ls_len, ns_len] | (simp only [ls_len, ns_len]; omega))) ?_
  refine hl_y rfl rfl rfl (y_gtrn (q := 300) rfl rfl rfl ) ?_
  refine hl_nil ?_
  refine hq_then ?_
  refine hc_if rfl (fun c0 => ?_) (fun c0 => ?_)
  · replace c0 := of_decide_eq_true c0
    refine hc_seq ?_
    refine hc_region ?_
    refine hl_i rfl rfl rfl (e_call0 rfl F14 rfl (fun w hw => law04_alive_ct w) rfl) ?_; intro _
    refine hl_y rfl rfl rfl (y_assign rfl rfl) ?_
    refine hl_nil ?_
    refine hq_then ?_
    refine hc_ret ?_
    exact hq_then_ret (hq_ret1 (()) rfl (rv_tmp rfl) rfl (fun _ h => Mm.pick h [] (by simp)))
  · replace c0 := of_decide_eq_false c0
    refine hc_skip ?_
    refine hq_then ?_
    refine hc_seq ?_
    refine hc_region ?_
    refine hl_y rfl rfl rfl (y_move rfl rfl) ?_
    refine hl_y rfl rfl rfl (y_move rfl rfl) ?_
    refine hl_i rfl rfl rfl (e_call rfl F15 rfl (fun w hw => hex_Rows_ct _ _ wd (by omega) w ((rdF hv) w hw) (by omega)) rfl) ?_; intro y13
    refine hl_y rfl rfl rfl (y_assign rfl rfl) ?_
    refine hl_nil ?_
    refine hq_then ?_
    refine hc_seq ?_
    refine hc_seq ?_
    refine hc_region ?_
    refine hl_y rfl rfl rfl (y_move rfl rfl) ?_
    refine hl_i rfl rfl rfl (e_call0 rfl F16 rfl (fun w hw => hex_Print_ct _ _ w ((rdF hv) w hw) (by omega)) rfl) ?_; intro _
    refine hl_y rfl rfl rfl (y_lent rfl rfl U9 rfl) ?_
    refine hl_y rfl rfl rfl (y_move rfl rfl) ?_
    refine hl_y rfl rfl rfl (y_lenE (l.length) rfl rfl S22 rfl (rdF hv) (by first | rfl | simp only [ls_len, ns_len] | (simp only [ls_len, ns_len]; omega))) ?_
    refine hl_y rfl rfl rfl (y_muln (p := 2) rfl rfl rfl (by omega)) ?_
    refine hl_y rfl rfl rfl (y_as (y_neqn rfl rfl rfl ) (congrArg Value.bool (decide_eq_false (fun h => h (hexL_len l))))) ?_
    refine hl_y rfl rfl rfl (y_move rfl rfl) ?_
    refine hl_yg 7 21 false rfl rfl rfl rfl rfl (y_move rfl rfl) ?_
    refine hl_ig 7 21 false rfl rfl rfl rfl rfl (e_call0 rfl F17 rfl (fun w hw => hex_Short_ct _ _ w ((rdF hv) w hw) (by omega)) rfl) ?_; intro _
    refine hl_yg 7 21 false rfl rfl rfl rfl rfl (y_lent rfl rfl U9 rfl) ?_
    refine hl_yg 7 21 false rfl rfl rfl rfl rfl (y_as (y_gtrn (q := 8) rfl rfl rfl ) (congrArg Value.bool (decide_eq_false (by have := short_le l; omega)))) ?_
    refine hl_y rfl rfl rfl (y_pick (b := false) rfl rfl rfl) ?_
    refine hl_nil ?_
    refine hq_then ?_
    refine hc_ifF rfl ?_
    refine hc_skip ?_
    refine hq_then ?_
    refine hc_seq ?_
    refine hc_seq ?_
    rcases Decidable.em (wd < 1) with c0 | c0
    · skip
      refine hc_region ?_
      refine hl_y rfl rfl rfl (y_move rfl rfl) ?_
      refine hl_y rfl rfl rfl (y_as (y_lssn (q := 1) rfl rfl rfl ) (congrArg Value.bool (decide_eq_true (by omega)))) ?_
      refine hl_y rfl rfl rfl (y_move rfl rfl) ?_
      refine hl_no 2 29 false true rfl rfl rfl rfl rfl rfl ?_
      refine hl_no 2 29 false true rfl rfl rfl rfl rfl rfl ?_
      refine hl_y rfl rfl rfl (y_pick (b := true) rfl rfl rfl) ?_
      refine hl_nil ?_
      refine hq_then ?_
      refine hc_ifT rfl ?_
      refine hc_seq ?_
      refine hc_region ?_
      refine hl_y rfl rfl rfl (y_move rfl rfl) ?_
      refine hl_y rfl rfl rfl (y_lenE ((rowsL l wd).length) rfl rfl S24 rfl (rdR 0 rfl) (by first | rfl | simp only [ls_len, ns_len] | (simp only [ls_len, ns_len]; omega))) ?_
      refine hl_y rfl rfl rfl (y_as (y_eqln (q := 0) rfl rfl rfl ) (congrArg Value.bool (decide_eq_true (by rw [rows_bad (by omega)]; rfl)))) ?_
      refine hl_y rfl rfl rfl (y_move rfl rfl) ?_
      refine hl_ig 3 36 true rfl rfl rfl rfl rfl (e_call0 rfl F14 rfl (fun w hw => law04_alive_ct w) rfl) ?_; intro _
      refine hl_y rfl rfl rfl (y_pick (b := true) rfl rfl rfl) ?_
      refine hl_y rfl rfl rfl (y_assign rfl rfl) ?_
      refine hl_nil ?_
      refine hq_then ?_
      refine hc_ret ?_
      exact hq_then_ret (hq_ret1 (()) rfl (rv_tmp rfl) rfl (fun _ h => Mm.pick h [] (by simp)))
    · skip
      rcases Decidable.em (64 < wd) with c1 | c1
      · skip
        refine hc_region ?_
        refine hl_y rfl rfl rfl (y_move rfl rfl) ?_
        refine hl_y rfl rfl rfl (y_as (y_lssn (q := 1) rfl rfl rfl ) (congrArg Value.bool (decide_eq_false (by omega)))) ?_
        refine hl_y rfl rfl rfl (y_move rfl rfl) ?_
        refine hl_yg 2 29 false rfl rfl rfl rfl rfl (y_move rfl rfl) ?_
        refine hl_yg 2 29 false rfl rfl rfl rfl rfl (y_as (y_gtrn (q := 64) rfl rfl rfl ) (congrArg Value.bool (decide_eq_true (by omega)))) ?_
        refine hl_y rfl rfl rfl (y_pick (b := false) rfl rfl rfl) ?_
        refine hl_nil ?_
        refine hq_then ?_
        refine hc_ifT rfl ?_
        refine hc_seq ?_
        refine hc_region ?_
        refine hl_y rfl rfl rfl (y_move rfl rfl) ?_
        refine hl_y rfl rfl rfl (y_lenE ((rowsL l wd).length) rfl rfl S24 rfl (rdR 0 rfl) (by first | rfl | simp only [ls_len, ns_len] | (simp only [ls_len, ns_len]; omega))) ?_
        refine hl_y rfl rfl rfl (y_as (y_eqln (q := 0) rfl rfl rfl ) (congrArg Value.bool (decide_eq_true (by rw [rows_bad (by omega)]; rfl)))) ?_
        refine hl_y rfl rfl rfl (y_move rfl rfl) ?_
        refine hl_ig 3 36 true rfl rfl rfl rfl rfl (e_call0 rfl F14 rfl (fun w hw => law04_alive_ct w) rfl) ?_; intro _
        refine hl_y rfl rfl rfl (y_pick (b := true) rfl rfl rfl) ?_
        refine hl_y rfl rfl rfl (y_assign rfl rfl) ?_
        refine hl_nil ?_
        refine hq_then ?_
        refine hc_ret ?_
        exact hq_then_ret (hq_ret1 (()) rfl (rv_tmp rfl) rfl (fun _ h => Mm.pick h [] (by simp)))
      · skip
        refine hc_region ?_
        refine hl_y rfl rfl rfl (y_move rfl rfl) ?_
        refine hl_y rfl rfl rfl (y_as (y_lssn (q := 1) rfl rfl rfl ) (congrArg Value.bool (decide_eq_false (by omega)))) ?_
        refine hl_y rfl rfl rfl (y_move rfl rfl) ?_
        refine hl_yg 2 29 false rfl rfl rfl rfl rfl (y_move rfl rfl) ?_
        refine hl_yg 2 29 false rfl rfl rfl rfl rfl (y_as (y_gtrn (q := 64) rfl rfl rfl ) (congrArg Value.bool (decide_eq_false (by omega)))) ?_
        refine hl_y rfl rfl rfl (y_pick (b := false) rfl rfl rfl) ?_
        refine hl_nil ?_
        refine hq_then ?_
        refine hc_ifF rfl ?_
        refine hc_skip ?_
        refine hq_then ?_
        refine hc_seq ?_
        refine hc_seq ?_
        refine hc_region ?_
        refine hl_y rfl rfl rfl (y_assign (v := vi 0) rfl rfl) ?_
        refine hl_nil ?_
        refine hq_then ?_
        refine hc_block ?_
        refine hc_loop (fun k => k ≤ (rowsL l wd).length) (fun k => (rowsL l wd).length - k) (fun k => [(0, v), (1, vi wd), (5, y13), (6, vi k)]) (fun k => Mm w [.row 9 y13 (ls vs (rowsL l wd))]) (0) (by omega) ⟨rfl, lk_int rfl (by omega), rfl, lk_int rfl (by omega), trivial⟩ (fun _ h => h) ?_
        intro k hk
        have hR : (rowsL l wd).length ≤ 300 := by rw [rows_len (by omega) (by omega)]; have := chunks_le (len := l.length) (w := wd) (by omega); omega
        refine hc_seq ?_
        refine hc_seq ?_
        refine hc_region ?_
        refine hl_y rfl rfl rfl (y_move rfl rfl) ?_
        refine hl_y rfl rfl rfl (y_move rfl rfl) ?_
        refine hl_y rfl rfl rfl (y_lenE ((rowsL l wd).length) rfl rfl S24 rfl (rdR 0 rfl) (by first | rfl | simp only [ls_len, ns_len] | (simp only [ls_len, ns_len]; omega))) ?_
        refine hl_y rfl rfl rfl (y_lssn rfl rfl rfl ) ?_
        refine hl_nil ?_
        refine hq_then ?_
        refine hc_if rfl (fun c5 => ?_) (fun c5 => ?_)
        · replace c5 := of_decide_eq_true c5
          refine hc_skip ?_
          refine hq_then ?_
          refine hc_seq ?_
          refine hc_block ?_
          refine hc_seq ?_
          rcases Decidable.em (k + 1 < (rowsL l wd).length) with c3 | c3
          · skip
            refine hc_region ?_
            refine hl_y rfl rfl rfl (y_move rfl rfl) ?_
            refine hl_y rfl rfl rfl (y_move rfl rfl) ?_
            refine hl_y rfl rfl rfl (y_ixs rfl S24 rfl (rdR 0 rfl) rfl (by first | omega | (simp only [ls_len, ns_len]; omega) | (simp only [List.length_take, List.length_drop, ls_len, ns_len]; omega))) ?_
            refine hl_y rfl rfl rfl (y_ldt rfl O9 rfl (rdR 0 rfl) (by omega)) ?_
            refine hl_y rfl rfl rfl (y_lent rfl rfl U9 rfl) ?_
            refine hl_y rfl rfl rfl (y_move rfl rfl) ?_
            refine hl_y rfl rfl rfl (y_muln (p := 2) rfl rfl rfl (by omega)) ?_
            refine hl_y rfl rfl rfl (y_as (y_gtrn rfl rfl rfl ) (congrArg Value.bool (decide_eq_false (row_le (by omega) (by omega) (by omega))))) ?_
            refine hl_y rfl rfl rfl (y_move rfl rfl) ?_
            refine hl_yg 8 53 false rfl rfl rfl rfl rfl (y_move rfl rfl) ?_
            refine hl_yg 8 53 false rfl rfl rfl rfl rfl (y_addn (q := 1) rfl rfl rfl (by omega)) ?_
            refine hl_yg 8 53 false rfl rfl rfl rfl rfl (y_move rfl rfl) ?_
            refine hl_yg 8 53 false rfl rfl rfl rfl rfl (y_lenE ((rowsL l wd).length) rfl rfl S24 rfl (rdR 0 rfl) (by first | rfl | simp only [ls_len, ns_len] | (simp only [ls_len, ns_len]; omega))) ?_
            refine hl_yg 8 53 false rfl rfl rfl rfl rfl (y_as (y_lssn rfl rfl rfl ) (congrArg Value.bool (decide_eq_true (by omega)))) ?_
            refine hl_yg 8 53 false rfl rfl rfl rfl rfl (y_move rfl rfl) ?_
            refine hl_yg 14 59 true rfl rfl rfl rfl rfl (y_move rfl rfl) ?_
            refine hl_yg 14 59 true rfl rfl rfl rfl rfl (y_move rfl rfl) ?_
            refine hl_yg 14 59 true rfl rfl rfl rfl rfl (y_ixs rfl S24 rfl (rdR 0 rfl) rfl (by first | omega | (simp only [ls_len, ns_len]; omega) | (simp only [List.length_take, List.length_drop, ls_len, ns_len]; omega))) ?_
            refine hl_yg 14 59 true rfl rfl rfl rfl rfl (y_ldt rfl O9 rfl (rdR 0 rfl) (by omega)) ?_
            refine hl_yg 14 59 true rfl rfl rfl rfl rfl (y_lent rfl rfl U9 rfl) ?_
            refine hl_yg 14 59 true rfl rfl rfl rfl rfl (y_move rfl rfl) ?_
            refine hl_yg 14 59 true rfl rfl rfl rfl rfl (y_muln (p := 2) rfl rfl rfl (by omega)) ?_
            refine hl_yg 14 59 true rfl rfl rfl rfl rfl (y_as (y_neqn rfl rfl rfl ) (congrArg Value.bool (decide_eq_false (fun h => h (row_full (by omega) (by omega) c3))))) ?_
            refine hl_yg 8 53 false rfl rfl rfl rfl rfl (y_pick (b := true) rfl rfl rfl) ?_
            refine hl_y rfl rfl rfl (y_pick (b := false) rfl rfl rfl) ?_
            refine hl_y rfl rfl rfl (y_move rfl rfl) ?_
            refine hl_yg 25 70 false rfl rfl rfl rfl rfl (y_move rfl rfl) ?_
            refine hl_yg 25 70 false rfl rfl rfl rfl rfl (y_move rfl rfl) ?_
            refine hl_yg 25 70 false rfl rfl rfl rfl rfl (y_ixs rfl S24 rfl (rdR 0 rfl) rfl (by first | omega | (simp only [ls_len, ns_len]; omega) | (simp only [List.length_take, List.length_drop, ls_len, ns_len]; omega))) ?_
            refine hl_yg 25 70 false rfl rfl rfl rfl rfl (y_ldt rfl O9 rfl (rdR 0 rfl) (by omega)) ?_
            refine hl_yg 25 70 false rfl rfl rfl rfl rfl (y_lent rfl rfl U9 rfl) ?_
            refine hl_yg 25 70 false rfl rfl rfl rfl rfl (y_as (y_eqln (q := 0) rfl rfl rfl ) (congrArg Value.bool (decide_eq_false (row_pos (by omega) (by omega) (by omega))))) ?_
            refine hl_y rfl rfl rfl (y_pick (b := false) rfl rfl rfl) ?_
            refine hl_nil ?_
            refine hq_then ?_
            refine hc_ifF rfl ?_
            refine hc_skip ?_
            refine hq_in (hq_then ?_)
            refine hc_region ?_
            refine hl_y rfl rfl rfl (y_move rfl rfl) ?_
            refine hl_y rfl rfl rfl (y_addn (q := 1) rfl rfl rfl (by omega)) ?_
            refine hl_y rfl rfl rfl (y_assign rfl rfl) ?_
            refine hl_nil ?_
            exact hq_round (k + 1) (by omega) (by omega) ⟨rfl, lk_int rfl (by omega), rfl, lk_int rfl (by omega), trivial⟩ (fun _ h => h)
          · skip
            refine hc_region ?_
            refine hl_y rfl rfl rfl (y_move rfl rfl) ?_
            refine hl_y rfl rfl rfl (y_move rfl rfl) ?_
            refine hl_y rfl rfl rfl (y_ixs rfl S24 rfl (rdR 0 rfl) rfl (by first | omega | (simp only [ls_len, ns_len]; omega) | (simp only [List.length_take, List.length_drop, ls_len, ns_len]; omega))) ?_
            refine hl_y rfl rfl rfl (y_ldt rfl O9 rfl (rdR 0 rfl) (by omega)) ?_
            refine hl_y rfl rfl rfl (y_lent rfl rfl U9 rfl) ?_
            refine hl_y rfl rfl rfl (y_move rfl rfl) ?_
            refine hl_y rfl rfl rfl (y_muln (p := 2) rfl rfl rfl (by omega)) ?_
            refine hl_y rfl rfl rfl (y_as (y_gtrn rfl rfl rfl ) (congrArg Value.bool (decide_eq_false (row_le (by omega) (by omega) (by omega))))) ?_
            refine hl_y rfl rfl rfl (y_move rfl rfl) ?_
            refine hl_yg 8 53 false rfl rfl rfl rfl rfl (y_move rfl rfl) ?_
            refine hl_yg 8 53 false rfl rfl rfl rfl rfl (y_addn (q := 1) rfl rfl rfl (by omega)) ?_
            refine hl_yg 8 53 false rfl rfl rfl rfl rfl (y_move rfl rfl) ?_
            refine hl_yg 8 53 false rfl rfl rfl rfl rfl (y_lenE ((rowsL l wd).length) rfl rfl S24 rfl (rdR 0 rfl) (by first | rfl | simp only [ls_len, ns_len] | (simp only [ls_len, ns_len]; omega))) ?_
            refine hl_yg 8 53 false rfl rfl rfl rfl rfl (y_as (y_lssn rfl rfl rfl ) (congrArg Value.bool (decide_eq_false (by omega)))) ?_
            refine hl_yg 8 53 false rfl rfl rfl rfl rfl (y_move rfl rfl) ?_
            refine hl_no 14 59 true false rfl rfl rfl rfl rfl rfl ?_
            refine hl_no 14 59 true false rfl rfl rfl rfl rfl rfl ?_
            refine hl_no 14 59 true false rfl rfl rfl rfl rfl rfl ?_
            refine hl_no 14 59 true false rfl rfl rfl rfl rfl rfl ?_
            refine hl_no 14 59 true false rfl rfl rfl rfl rfl rfl ?_
            refine hl_no 14 59 true false rfl rfl rfl rfl rfl rfl ?_
            refine hl_no 14 59 true false rfl rfl rfl rfl rfl rfl ?_
            refine hl_no 14 59 true false rfl rfl rfl rfl rfl rfl ?_
            refine hl_yg 8 53 false rfl rfl rfl rfl rfl (y_pick (b := false) rfl rfl rfl) ?_
            refine hl_y rfl rfl rfl (y_pick (b := false) rfl rfl rfl) ?_
            refine hl_y rfl rfl rfl (y_move rfl rfl) ?_
            refine hl_yg 25 70 false rfl rfl rfl rfl rfl (y_move rfl rfl) ?_
            refine hl_yg 25 70 false rfl rfl rfl rfl rfl (y_move rfl rfl) ?_
            refine hl_yg 25 70 false rfl rfl rfl rfl rfl (y_ixs rfl S24 rfl (rdR 0 rfl) rfl (by first | omega | (simp only [ls_len, ns_len]; omega) | (simp only [List.length_take, List.length_drop, ls_len, ns_len]; omega))) ?_
            refine hl_yg 25 70 false rfl rfl rfl rfl rfl (y_ldt rfl O9 rfl (rdR 0 rfl) (by omega)) ?_
            refine hl_yg 25 70 false rfl rfl rfl rfl rfl (y_lent rfl rfl U9 rfl) ?_
            refine hl_yg 25 70 false rfl rfl rfl rfl rfl (y_as (y_eqln (q := 0) rfl rfl rfl ) (congrArg Value.bool (decide_eq_false (row_pos (by omega) (by omega) (by omega))))) ?_
            refine hl_y rfl rfl rfl (y_pick (b := false) rfl rfl rfl) ?_
            refine hl_nil ?_
            refine hq_then ?_
            refine hc_ifF rfl ?_
            refine hc_skip ?_
            refine hq_in (hq_then ?_)
            refine hc_region ?_
            refine hl_y rfl rfl rfl (y_move rfl rfl) ?_
            refine hl_y rfl rfl rfl (y_addn (q := 1) rfl rfl rfl (by omega)) ?_
            refine hl_y rfl rfl rfl (y_assign rfl rfl) ?_
            refine hl_nil ?_
            exact hq_round (k + 1) (by omega) (by omega) ⟨rfl, lk_int rfl (by omega), rfl, lk_int rfl (by omega), trivial⟩ (fun _ h => h)
        · replace c5 := of_decide_eq_false c5
          refine hc_exit ?_
          refine hq_then_exit (hq_loop_exit (hq_in_same (hq_then ?_)))
          refine hc_seq ?_
          refine hc_region ?_
          refine hl_y rfl rfl rfl (y_move rfl rfl) ?_
          refine hl_y rfl rfl rfl (y_lenE ((rowsL l wd).length) rfl rfl S24 rfl (rdR 0 rfl) (by first | rfl | simp only [ls_len, ns_len] | (simp only [ls_len, ns_len]; omega))) ?_
          refine hl_y rfl rfl rfl (y_move rfl rfl) ?_
          refine hl_y rfl rfl rfl (y_lenE (l.length) rfl rfl S22 rfl (rdF hv) (by first | rfl | simp only [ls_len, ns_len] | (simp only [ls_len, ns_len]; omega))) ?_
          refine hl_y rfl rfl rfl (y_move rfl rfl) ?_
          refine hl_y rfl rfl rfl (y_addn rfl rfl rfl (by omega)) ?_
          refine hl_y rfl rfl rfl (y_subn (q := 1) rfl rfl rfl (by omega) (by omega)) ?_
          refine hl_y rfl rfl rfl (y_move rfl rfl) ?_
          refine hl_y rfl rfl rfl (y_quon rfl rfl rfl (by omega) (by omega)) ?_
          refine hl_y rfl rfl rfl (y_as (y_eqln rfl rfl rfl ) (congrArg Value.bool (decide_eq_true (rows_len (by omega) (by omega))))) ?_
          refine hl_y rfl rfl rfl (y_move rfl rfl) ?_
          refine hl_ig 10 88 true rfl rfl rfl rfl rfl (e_call0 rfl F14 rfl (fun w hw => law04_alive_ct w) rfl) ?_; intro _
          refine hl_y rfl rfl rfl (y_pick (b := true) rfl rfl rfl) ?_
          refine hl_y rfl rfl rfl (y_assign rfl rfl) ?_
          refine hl_nil ?_
          refine hq_then ?_
          refine hc_ret ?_
          exact hq_ret1 (()) rfl (rv_tmp rfl) rfl (fun _ h => Mm.pick h [] (by simp))

theorem hexSizes_n (l : List UInt8) (v : Value) (wd : Int) (hb : -9223372036854775808 ≤ wd) (hn0 : wd < 0) (w : World) (hv : Rd w v (ls vb l)) (hm : l.length ≤ 9223372036854775807) : Ct0 Try.prog 3 #[v, .int .i64 wd] w (.bool true) := by
  refine ct0_of Try.func3 rfl Try.ntmps3 rfl ?_
  refine hc_seq ?_
  refine hc_region ?_
  refine hl_y rfl rfl rfl (y_assign rfl rfl) ?_
  refine hl_nil ?_
  refine hq_then ?_
  refine hc_seq ?_
  refine hc_seq ?_
  refine hc_region ?_
  refine hl_y rfl rfl rfl (y_move rfl rfl) ?_
  refine hl_y rfl rfl rfl (y_lenE (l.length) rfl rfl S22 rfl (rdF hv) (by first | rfl | simp only [ls_len, ns_len] | (simp only [ls_len, ns_len]; omega))) ?_
  refine hl_y rfl rfl rfl (y_gtrn (q := 300) rfl rfl rfl ) ?_
  refine hl_nil ?_
  refine hq_then ?_
  refine hc_if rfl (fun c0 => ?_) (fun c0 => ?_)
  · replace c0 := of_decide_eq_true c0
    refine hc_seq ?_
    refine hc_region ?_
    refine hl_i rfl rfl rfl (e_call0 rfl F14 rfl (fun w hw => law04_alive_ct w) rfl) ?_; intro _
    refine hl_y rfl rfl rfl (y_assign rfl rfl) ?_
    refine hl_nil ?_
    refine hq_then ?_
    refine hc_ret ?_
    exact hq_then_ret (hq_ret1 (()) rfl (rv_tmp rfl) rfl (fun _ h => Mm.pick h [] (by simp)))
  · replace c0 := of_decide_eq_false c0
    refine hc_skip ?_
    refine hq_then ?_
    refine hc_seq ?_
    refine hc_region ?_
    refine hl_y rfl rfl rfl (y_move rfl rfl) ?_
    refine hl_y rfl rfl rfl (y_move rfl rfl) ?_
    refine hl_i rfl rfl rfl (e_call0 rfl F15 rfl (fun w hw => hex_Rows_neg _ _ _ (by omega) (by omega) w ((rdF hv) w hw)) rfl) ?_; intro _
    refine hl_y rfl rfl rfl (y_assign rfl rfl) ?_
    refine hl_nil ?_
    refine hq_then ?_
    refine hc_seq ?_
    refine hc_seq ?_
    refine hc_region ?_
    refine hl_y rfl rfl rfl (y_move rfl rfl) ?_
    refine hl_i rfl rfl rfl (e_call0 rfl F16 rfl (fun w hw => hex_Print_ct _ _ w ((rdF hv) w hw) (by omega)) rfl) ?_; intro _
    refine hl_y rfl rfl rfl (y_lent rfl rfl U9 rfl) ?_
    refine hl_y rfl rfl rfl (y_move rfl rfl) ?_
    refine hl_y rfl rfl rfl (y_lenE (l.length) rfl rfl S22 rfl (rdF hv) (by first | rfl | simp only [ls_len, ns_len] | (simp only [ls_len, ns_len]; omega))) ?_
    refine hl_y rfl rfl rfl (y_muln (p := 2) rfl rfl rfl (by omega)) ?_
    refine hl_y rfl rfl rfl (y_as (y_neqn rfl rfl rfl ) (congrArg Value.bool (decide_eq_false (fun h => h (hexL_len l))))) ?_
    refine hl_y rfl rfl rfl (y_move rfl rfl) ?_
    refine hl_yg 7 21 false rfl rfl rfl rfl rfl (y_move rfl rfl) ?_
    refine hl_ig 7 21 false rfl rfl rfl rfl rfl (e_call0 rfl F17 rfl (fun w hw => hex_Short_ct _ _ w ((rdF hv) w hw) (by omega)) rfl) ?_; intro _
    refine hl_yg 7 21 false rfl rfl rfl rfl rfl (y_lent rfl rfl U9 rfl) ?_
    refine hl_yg 7 21 false rfl rfl rfl rfl rfl (y_as (y_gtrn (q := 8) rfl rfl rfl ) (congrArg Value.bool (decide_eq_false (by have := short_le l; omega)))) ?_
    refine hl_y rfl rfl rfl (y_pick (b := false) rfl rfl rfl) ?_
    refine hl_nil ?_
    refine hq_then ?_
    refine hc_ifF rfl ?_
    refine hc_skip ?_
    refine hq_then ?_
    refine hc_seq ?_
    refine hc_seq ?_
    refine hc_region ?_
    refine hl_y rfl rfl rfl (y_move rfl rfl) ?_
    refine hl_y rfl rfl rfl (y_as (y_lssi (q := 1) rfl rfl rfl ) (congrArg Value.bool (decide_eq_true (by omega)))) ?_
    refine hl_y rfl rfl rfl (y_move rfl rfl) ?_
    refine hl_no 2 29 false true rfl rfl rfl rfl rfl rfl ?_
    refine hl_no 2 29 false true rfl rfl rfl rfl rfl rfl ?_
    refine hl_y rfl rfl rfl (y_pick (b := true) rfl rfl rfl) ?_
    refine hl_nil ?_
    refine hq_then ?_
    refine hc_ifT rfl ?_
    refine hc_seq ?_
    refine hc_region ?_
    refine hl_y rfl rfl rfl (y_move rfl rfl) ?_
    refine hl_y rfl rfl rfl (y_lenE 0 rfl rfl S24 rfl rd_nil rfl) ?_
    refine hl_y rfl rfl rfl (y_as (y_eqln (q := 0) rfl rfl rfl ) (congrArg Value.bool (decide_eq_true (rfl)))) ?_
    refine hl_y rfl rfl rfl (y_move rfl rfl) ?_
    refine hl_ig 3 36 true rfl rfl rfl rfl rfl (e_call0 rfl F14 rfl (fun w hw => law04_alive_ct w) rfl) ?_; intro _
    refine hl_y rfl rfl rfl (y_pick (b := true) rfl rfl rfl) ?_
    refine hl_y rfl rfl rfl (y_assign rfl rfl) ?_
    refine hl_nil ?_
    refine hq_then ?_
    refine hc_ret ?_
    exact hq_then_ret (hq_ret1 (()) rfl (rv_tmp rfl) rfl (fun _ h => Mm.pick h [] (by simp)))

end Go.Proofs.Ytcdidapkpfnphaa
