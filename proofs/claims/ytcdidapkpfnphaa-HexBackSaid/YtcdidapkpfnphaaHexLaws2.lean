/- The law HexBack: each call gives back true. -/
import Derived.Test.YtcdidapkpfnphaaHexLaws
import Derived.Test.YtcdidapkpfnphaaCtrB
namespace Go.Proofs.Ytcdidapkpfnphaa
open Go.RowKit
set_option linter.unusedVariables false
set_option linter.unusedSimpArgs false
set_option maxHeartbeats 1000000 in
theorem hexBack_p (l : List UInt8) (v : Value) (sl : List UInt8) (wd : Nat) (hb : wd ≤ 9223372036854775807) (w : World) (hv : Rd w v (ls vb l)) (hm : l.length ≤ 9223372036854775807) : Ct0 Try.prog 7 #[v, vs sl, vi wd] w (.bool true) := by
  refine ct0_of Try.func7 rfl Try.ntmps7 rfl ?_
  refine hc_seq ?_
  refine hc_region ?_
  refine hl_y rfl rfl rfl (y_assign rfl rfl) ?_
  refine hl_nil ?_
  refine hq_then ?_
  refine hc_seq ?_
  refine hc_seq ?_
  rcases Decidable.em (300 < l.length) with k0 | k0
  · skip
    refine hc_region ?_
    refine hl_y rfl rfl rfl (y_move rfl rfl) ?_
    refine hl_y rfl rfl rfl (y_lenE (l.length) rfl rfl S22 rfl (rdF hv) (by first | rfl | simp only [ls_len, ns_len] | (simp only [ls_len, ns_len]; omega))) ?_
    refine hl_y rfl rfl rfl (y_as (y_gtrn (q := 300) rfl rfl rfl ) (congrArg Value.bool (decide_eq_true (by omega)))) ?_
    refine hl_y rfl rfl rfl (y_move rfl rfl) ?_
    refine hl_no 3 19 false true rfl rfl rfl rfl rfl rfl ?_
    refine hl_no 3 19 false true rfl rfl rfl rfl rfl rfl ?_
    refine hl_no 3 19 false true rfl rfl rfl rfl rfl rfl ?_
    refine hl_y rfl rfl rfl (y_pick (b := true) rfl rfl rfl) ?_
    refine hl_nil ?_
    refine hq_then ?_
    refine hc_ifT rfl ?_
    refine hc_seq ?_
    refine hc_region ?_
    refine hl_i rfl rfl rfl (e_call0 rfl F14 rfl (fun w hw => law04_alive_ct w) rfl) ?_; intro _
    refine hl_y rfl rfl rfl (y_assign rfl rfl) ?_
    refine hl_nil ?_
    refine hq_then ?_
    refine hc_ret ?_
    exact hq_then_ret (hq_ret1 (()) rfl (rv_tmp rfl) rfl (fun _ h => Mm.pick h [] (by simp)))
  · skip
    rcases Decidable.em (300 < sl.length) with k1 | k1
    · skip
      refine hc_region ?_
      refine hl_y rfl rfl rfl (y_move rfl rfl) ?_
      refine hl_y rfl rfl rfl (y_lenE (l.length) rfl rfl S22 rfl (rdF hv) (by first | rfl | simp only [ls_len, ns_len] | (simp only [ls_len, ns_len]; omega))) ?_
      refine hl_y rfl rfl rfl (y_as (y_gtrn (q := 300) rfl rfl rfl ) (congrArg Value.bool (decide_eq_false (by omega)))) ?_
      refine hl_y rfl rfl rfl (y_move rfl rfl) ?_
      refine hl_yg 3 19 false rfl rfl rfl rfl rfl (y_move rfl rfl) ?_
      refine hl_yg 3 19 false rfl rfl rfl rfl rfl (y_lent rfl rfl U9 rfl) ?_
      refine hl_yg 3 19 false rfl rfl rfl rfl rfl (y_as (y_gtrn (q := 300) rfl rfl rfl ) (congrArg Value.bool (decide_eq_true (by omega)))) ?_
      refine hl_y rfl rfl rfl (y_pick (b := false) rfl rfl rfl) ?_
      refine hl_nil ?_
      refine hq_then ?_
      refine hc_ifT rfl ?_
      refine hc_seq ?_
      refine hc_region ?_
      refine hl_i rfl rfl rfl (e_call0 rfl F14 rfl (fun w hw => law04_alive_ct w) rfl) ?_; intro _
      refine hl_y rfl rfl rfl (y_assign rfl rfl) ?_
      refine hl_nil ?_
      refine hq_then ?_
      refine hc_ret ?_
      exact hq_then_ret (hq_ret1 (()) rfl (rv_tmp rfl) rfl (fun _ h => Mm.pick h [] (by simp)))
    · skip
      refine hc_region ?_
      refine hl_y rfl rfl rfl (y_move rfl rfl) ?_
      refine hl_y rfl rfl rfl (y_lenE (l.length) rfl rfl S22 rfl (rdF hv) (by first | rfl | simp only [ls_len, ns_len] | (simp only [ls_len, ns_len]; omega))) ?_
      refine hl_y rfl rfl rfl (y_as (y_gtrn (q := 300) rfl rfl rfl ) (congrArg Value.bool (decide_eq_false (by omega)))) ?_
      refine hl_y rfl rfl rfl (y_move rfl rfl) ?_
      refine hl_yg 3 19 false rfl rfl rfl rfl rfl (y_move rfl rfl) ?_
      refine hl_yg 3 19 false rfl rfl rfl rfl rfl (y_lent rfl rfl U9 rfl) ?_
      refine hl_yg 3 19 false rfl rfl rfl rfl rfl (y_as (y_gtrn (q := 300) rfl rfl rfl ) (congrArg Value.bool (decide_eq_false (by omega)))) ?_
      refine hl_y rfl rfl rfl (y_pick (b := false) rfl rfl rfl) ?_
      refine hl_nil ?_
      refine hq_then ?_
      refine hc_ifF rfl ?_
      refine hc_skip ?_
      refine hq_then ?_
      refine hc_seq ?_
      refine hc_region ?_
      refine hl_y rfl rfl rfl (y_move rfl rfl) ?_
      refine hl_i rfl rfl rfl (e_call0 rfl F16 rfl (fun w hw => hex_Print_ct _ _ w ((rdF hv) w hw) (by omega)) rfl) ?_; intro _
      refine hl_i rfl rfl rfl (e_call rfl F31 rfl (fun w hw => hex_Parse_ct ((hexL (l))) w (by rw [hexL_len]; omega)) rfl) ?_; intro y28
      refine hl_y rfl rfl rfl (y_move rfl rfl) ?_
      refine hl_y rfl rfl rfl (y_extract rfl rfl rfl) ?_
      refine hl_y rfl rfl rfl (y_extract rfl rfl rfl) ?_
      refine hl_y rfl rfl rfl (y_extract rfl rfl rfl) ?_
      refine hl_y rfl rfl rfl (y_assign rfl rfl) ?_
      refine hl_y rfl rfl rfl (y_assign rfl rfl) ?_
      refine hl_y rfl rfl rfl (y_assign rfl rfl) ?_
      refine hl_nil ?_
      refine hq_then ?_
      refine hc_seq ?_
      refine hc_seq ?_
      refine hc_region ?_
      refine hl_y rfl rfl rfl (y_move rfl rfl) ?_
      refine hl_y rfl rfl rfl (y_as (y_neqn (q := 0) rfl rfl rfl ) (congrArg Value.bool (decide_eq_false (fun h => h (parF_ok.2 (par_back l).1))))) ?_
      refine hl_y rfl rfl rfl (y_move rfl rfl) ?_
      refine hl_yg 2 34 false rfl rfl rfl rfl rfl (y_move rfl rfl) ?_
      refine hl_yg 2 34 false rfl rfl rfl rfl rfl (y_move rfl rfl) ?_
      refine hl_ig 2 34 false rfl rfl rfl rfl rfl (e_call0 rfl F32 rfl (fun w hw => r01_Same_t _ _ _ _ w ((rdR 0 rfl) w hw) ((rdF hv) w hw) (by rw [(par_back l).2]; omega) (par_back l).2) rfl) ?_; intro _
      refine hl_yg 2 34 false rfl rfl rfl rfl rfl (y_not rfl rfl) ?_
      refine hl_y rfl rfl rfl (y_pick (b := false) rfl rfl rfl) ?_
      refine hl_nil ?_
      refine hq_then ?_
      refine hc_ifF rfl ?_
      refine hc_skip ?_
      refine hq_then ?_
      refine hc_seq ?_
      refine hc_region ?_
      refine hl_y rfl rfl rfl (y_move rfl rfl) ?_
      refine hl_i rfl rfl rfl (e_call rfl F31 rfl (fun w hw => hex_Parse_ct (sl) w (by omega)) rfl) ?_; intro y42
      refine hl_y rfl rfl rfl (y_move rfl rfl) ?_
      refine hl_y rfl rfl rfl (y_extract rfl rfl rfl) ?_
      refine hl_y rfl rfl rfl (y_extract rfl rfl rfl) ?_
      refine hl_y rfl rfl rfl (y_extract rfl rfl rfl) ?_
      refine hl_y rfl rfl rfl (y_assign rfl rfl) ?_
      refine hl_y rfl rfl rfl (y_assign rfl rfl) ?_
      refine hl_y rfl rfl rfl (y_assign rfl rfl) ?_
      refine hl_nil ?_
      refine hq_then ?_
      refine hc_seq ?_
      refine hc_seq ?_
      rcases Decidable.em (parF sl = 0) with c2 | c2
      · skip
        refine hc_region ?_
        refine hl_y rfl rfl rfl (y_move rfl rfl) ?_
        refine hl_y rfl rfl rfl (y_as (y_eqln (q := 0) rfl rfl rfl ) (congrArg Value.bool (decide_eq_true (c2)))) ?_
        refine hl_y rfl rfl rfl (y_move rfl rfl) ?_
        refine hl_yg 2 48 true rfl rfl rfl rfl rfl (y_move rfl rfl) ?_
        refine hl_ig 2 48 true rfl rfl rfl rfl rfl (e_call0 rfl F16 rfl (fun w hw => hex_Print_ct (parA sl) _ w ((rdR 0 rfl) w hw) (by rw [parA]; split <;> (try rw [parN_len]) <;> (try simp) <;> omega)) rfl) ?_; intro _
        refine hl_yg 2 48 true rfl rfl rfl rfl rfl (y_move rfl rfl) ?_
        refine hl_yg 2 48 true rfl rfl rfl rfl rfl (y_as (y_neqs rfl rfl rfl) (congrArg Value.bool (decide_eq_false (fun h => h (par_print (parF_ok.1 c2)))))) ?_
        refine hl_y rfl rfl rfl (y_pick (b := true) rfl rfl rfl) ?_
        refine hl_y rfl rfl rfl (y_move rfl rfl) ?_
        refine hl_yg 8 54 false rfl rfl rfl rfl rfl (y_move rfl rfl) ?_
        refine hl_yg 8 54 false rfl rfl rfl rfl rfl (y_as (y_neqn (q := 0) rfl rfl rfl ) (congrArg Value.bool (decide_eq_false (fun h => h c2)))) ?_
        refine hl_yg 8 54 false rfl rfl rfl rfl rfl (y_move rfl rfl) ?_
        refine hl_no 11 57 true false rfl rfl rfl rfl rfl rfl ?_
        refine hl_no 11 57 true false rfl rfl rfl rfl rfl rfl ?_
        refine hl_no 11 57 true false rfl rfl rfl rfl rfl rfl ?_
        refine hl_yg 8 54 false rfl rfl rfl rfl rfl (y_pick (b := false) rfl rfl rfl) ?_
        refine hl_y rfl rfl rfl (y_pick (b := false) rfl rfl rfl) ?_
        refine hl_nil ?_
        refine hq_then ?_
        refine hc_ifF rfl ?_
        refine hc_skip ?_
        refine hq_then ?_
        refine hc_seq ?_
        refine hc_region ?_
        refine hl_y rfl rfl rfl (y_assign (v := vs []) rfl rfl) ?_
        refine hl_nil ?_
        refine hq_then ?_
        refine hc_seq ?_
        refine hc_region ?_
        refine hl_y rfl rfl rfl (y_move rfl rfl) ?_
        refine hl_y rfl rfl rfl (y_move rfl rfl) ?_
        refine hl_i rfl rfl rfl (e_call rfl F15 rfl (fun w hw => hex_Rows_ct _ _ wd (by omega) w ((rdF hv) w hw) (by omega)) rfl) ?_; intro y65
        refine hl_y rfl rfl rfl (y_assign rfl rfl) ?_
        refine hl_nil ?_
        refine hq_then ?_
        refine hc_seq ?_
        refine hc_seq ?_
        refine hc_region ?_
        refine hl_y rfl rfl rfl (y_assign (v := vi 0) rfl rfl) ?_
        refine hl_nil ?_
        refine hq_then ?_
        refine hc_block ?_
        refine hc_loop (fun k => k ≤ (rowsL l wd).length) (fun k => (rowsL l wd).length - k) (fun k => [(0, v), (2, vi wd), (14, y65), (15, vi k), (13, vs ((rowsL l wd).take k).flatten)]) (fun k => Mm w [.row 9 y65 (ls vs (rowsL l wd))]) (0) (by omega) ⟨rfl, lk_int rfl (by omega), rfl, lk_int rfl (by omega), rfl, trivial⟩ (fun _ h => Mm.pick h [0] (by decide)) ?_
        intro k hk
        have hR := rows_le l wd
        refine hc_seq ?_
        refine hc_seq ?_
        refine hc_region ?_
        refine hl_y rfl rfl rfl (y_move rfl rfl) ?_
        refine hl_y rfl rfl rfl (y_move rfl rfl) ?_
        refine hl_y rfl rfl rfl (y_lenE ((rowsL l wd).length) rfl rfl S24 rfl (rdR 0 rfl) (by first | rfl | simp only [ls_len, ns_len] | (simp only [ls_len, ns_len]; omega))) ?_
        refine hl_y rfl rfl rfl (y_lssn rfl rfl rfl ) ?_
        refine hl_nil ?_
        refine hq_then ?_
        refine hc_if rfl (fun c5 => ?_) (fun c5 => ?_)
        · replace c5 := of_decide_eq_true c5
          refine hc_skip ?_
          refine hq_then ?_
          refine hc_seq ?_
          refine hc_block ?_
          refine hc_region ?_
          refine hl_y rfl rfl rfl (y_move rfl rfl) ?_
          refine hl_y rfl rfl rfl (y_move rfl rfl) ?_
          refine hl_y rfl rfl rfl (y_move rfl rfl) ?_
          refine hl_y rfl rfl rfl (y_ixs rfl S24 rfl (rdR 0 rfl) rfl (by first | omega | (simp only [ls_len, ns_len]; omega) | (simp only [List.length_take, List.length_drop, ls_len, ns_len]; omega))) ?_
          refine hl_y rfl rfl rfl (y_ldt rfl O9 rfl (rdR 0 rfl) (by omega)) ?_
          refine hl_y rfl rfl rfl (y_cat rfl rfl rfl (by have := flat_add (l := l) (w := wd) (k := k) (by omega); omega)) ?_
          refine hl_y rfl rfl rfl (y_assign rfl rfl) ?_
          refine hl_nil ?_
          refine hq_in (hq_then ?_)
          refine hc_region ?_
          refine hl_y rfl rfl rfl (y_move rfl rfl) ?_
          refine hl_y rfl rfl rfl (y_addn (q := 1) rfl rfl rfl (by omega)) ?_
          refine hl_y rfl rfl rfl (y_assign rfl rfl) ?_
          refine hl_nil ?_
          exact hq_round (k + 1) (by omega) (by omega) ⟨rfl, lk_int rfl (by omega), rfl, lk_int rfl (by omega), lk_eq rfl (congrArg vs (flat_next (by omega))), trivial⟩ (fun _ h => h)
        · replace c5 := of_decide_eq_false c5
          refine hc_exit ?_
          refine hq_then_exit (hq_loop_exit (hq_in_same (hq_then ?_)))
          refine hc_seq ?_
          rcases Decidable.em (wd < 1) with c5 | c5
          · skip
            refine hc_region ?_
            refine hl_y rfl rfl rfl (y_move rfl rfl) ?_
            refine hl_y rfl rfl rfl (y_as (y_lssn (q := 1) rfl rfl rfl ) (congrArg Value.bool (decide_eq_true (by omega)))) ?_
            refine hl_y rfl rfl rfl (y_move rfl rfl) ?_
            refine hl_no 2 80 false true rfl rfl rfl rfl rfl rfl ?_
            refine hl_no 2 80 false true rfl rfl rfl rfl rfl rfl ?_
            refine hl_y rfl rfl rfl (y_pick (b := true) rfl rfl rfl) ?_
            refine hl_y rfl rfl rfl (y_move rfl rfl) ?_
            refine hl_no 6 84 false true rfl rfl rfl rfl rfl rfl ?_
            refine hl_no 6 84 false true rfl rfl rfl rfl rfl rfl ?_
            refine hl_no 6 84 false true rfl rfl rfl rfl rfl rfl ?_
            refine hl_no 6 84 false true rfl rfl rfl rfl rfl rfl ?_
            refine hl_y rfl rfl rfl (y_pick (b := true) rfl rfl rfl) ?_
            refine hl_y rfl rfl rfl (y_move rfl rfl) ?_
            refine hl_ig 12 90 true rfl rfl rfl rfl rfl (e_call0 rfl F14 rfl (fun w hw => law04_alive_ct w) rfl) ?_; intro _
            refine hl_y rfl rfl rfl (y_pick (b := true) rfl rfl rfl) ?_
            refine hl_y rfl rfl rfl (y_assign rfl rfl) ?_
            refine hl_nil ?_
            refine hq_then ?_
            refine hc_ret ?_
            exact hq_ret1 (()) rfl (rv_tmp rfl) rfl (fun _ h => Mm.pick h [] (by simp))
          · skip
            rcases Decidable.em (64 < wd) with c6 | c6
            · skip
              refine hc_region ?_
              refine hl_y rfl rfl rfl (y_move rfl rfl) ?_
              refine hl_y rfl rfl rfl (y_as (y_lssn (q := 1) rfl rfl rfl ) (congrArg Value.bool (decide_eq_false (by omega)))) ?_
              refine hl_y rfl rfl rfl (y_move rfl rfl) ?_
              refine hl_yg 2 80 false rfl rfl rfl rfl rfl (y_move rfl rfl) ?_
              refine hl_yg 2 80 false rfl rfl rfl rfl rfl (y_as (y_gtrn (q := 64) rfl rfl rfl ) (congrArg Value.bool (decide_eq_true (by omega)))) ?_
              refine hl_y rfl rfl rfl (y_pick (b := false) rfl rfl rfl) ?_
              refine hl_y rfl rfl rfl (y_move rfl rfl) ?_
              refine hl_no 6 84 false true rfl rfl rfl rfl rfl rfl ?_
              refine hl_no 6 84 false true rfl rfl rfl rfl rfl rfl ?_
              refine hl_no 6 84 false true rfl rfl rfl rfl rfl rfl ?_
              refine hl_no 6 84 false true rfl rfl rfl rfl rfl rfl ?_
              refine hl_y rfl rfl rfl (y_pick (b := true) rfl rfl rfl) ?_
              refine hl_y rfl rfl rfl (y_move rfl rfl) ?_
              refine hl_ig 12 90 true rfl rfl rfl rfl rfl (e_call0 rfl F14 rfl (fun w hw => law04_alive_ct w) rfl) ?_; intro _
              refine hl_y rfl rfl rfl (y_pick (b := true) rfl rfl rfl) ?_
              refine hl_y rfl rfl rfl (y_assign rfl rfl) ?_
              refine hl_nil ?_
              refine hq_then ?_
              refine hc_ret ?_
              exact hq_ret1 (()) rfl (rv_tmp rfl) rfl (fun _ h => Mm.pick h [] (by simp))
            · skip
              refine hc_region ?_
              refine hl_y rfl rfl rfl (y_move rfl rfl) ?_
              refine hl_y rfl rfl rfl (y_as (y_lssn (q := 1) rfl rfl rfl ) (congrArg Value.bool (decide_eq_false (by omega)))) ?_
              refine hl_y rfl rfl rfl (y_move rfl rfl) ?_
              refine hl_yg 2 80 false rfl rfl rfl rfl rfl (y_move rfl rfl) ?_
              refine hl_yg 2 80 false rfl rfl rfl rfl rfl (y_as (y_gtrn (q := 64) rfl rfl rfl ) (congrArg Value.bool (decide_eq_false (by omega)))) ?_
              refine hl_y rfl rfl rfl (y_pick (b := false) rfl rfl rfl) ?_
              refine hl_y rfl rfl rfl (y_move rfl rfl) ?_
              refine hl_yg 6 84 false rfl rfl rfl rfl rfl (y_move rfl rfl) ?_
              refine hl_yg 6 84 false rfl rfl rfl rfl rfl (y_move rfl rfl) ?_
              refine hl_ig 6 84 false rfl rfl rfl rfl rfl (e_call0 rfl F16 rfl (fun w hw => hex_Print_ct l _ w ((rdF hv) w hw) (by omega)) rfl) ?_; intro _
              refine hl_yg 6 84 false rfl rfl rfl rfl rfl (y_as (y_eqls rfl rfl rfl) (congrArg Value.bool (decide_eq_true (by rw [show k = (rowsL l wd).length from by omega, List.take_length]; exact rows_all (by omega) (by omega))))) ?_
              refine hl_y rfl rfl rfl (y_pick (b := false) rfl rfl rfl) ?_
              refine hl_y rfl rfl rfl (y_move rfl rfl) ?_
              refine hl_ig 12 90 true rfl rfl rfl rfl rfl (e_call0 rfl F14 rfl (fun w hw => law04_alive_ct w) rfl) ?_; intro _
              refine hl_y rfl rfl rfl (y_pick (b := true) rfl rfl rfl) ?_
              refine hl_y rfl rfl rfl (y_assign rfl rfl) ?_
              refine hl_nil ?_
              refine hq_then ?_
              refine hc_ret ?_
              exact hq_ret1 (()) rfl (rv_tmp rfl) rfl (fun _ h => Mm.pick h [] (by simp))
      · skip
        refine hc_region ?_
        refine hl_y rfl rfl rfl (y_move rfl rfl) ?_
        refine hl_y rfl rfl rfl (y_as (y_eqln (q := 0) rfl rfl rfl ) (congrArg Value.bool (decide_eq_false (c2)))) ?_
        refine hl_y rfl rfl rfl (y_move rfl rfl) ?_
        refine hl_no 2 48 true false rfl rfl rfl rfl rfl rfl ?_
        refine hl_no 2 48 true false rfl rfl rfl rfl rfl rfl ?_
        refine hl_no 2 48 true false rfl rfl rfl rfl rfl rfl ?_
        refine hl_no 2 48 true false rfl rfl rfl rfl rfl rfl ?_
        refine hl_y rfl rfl rfl (y_pick (b := false) rfl rfl rfl) ?_
        refine hl_y rfl rfl rfl (y_move rfl rfl) ?_
        refine hl_yg 8 54 false rfl rfl rfl rfl rfl (y_move rfl rfl) ?_
        refine hl_yg 8 54 false rfl rfl rfl rfl rfl (y_as (y_neqn (q := 0) rfl rfl rfl ) (congrArg Value.bool (decide_eq_true (c2)))) ?_
        refine hl_yg 8 54 false rfl rfl rfl rfl rfl (y_move rfl rfl) ?_
        refine hl_yg 11 57 true rfl rfl rfl rfl rfl (y_move rfl rfl) ?_
        refine hl_yg 11 57 true rfl rfl rfl rfl rfl (y_lenE ((parA (sl)).length) rfl rfl S22 rfl (rdR 0 rfl) (by first | rfl | simp only [ls_len, ns_len] | (simp only [ls_len, ns_len]; omega))) ?_
        refine hl_yg 11 57 true rfl rfl rfl rfl rfl (y_as (y_gtrn (q := 0) rfl rfl rfl ) (congrArg Value.bool (decide_eq_false (by rw [par_none (fun h => c2 (parF_ok.2 h))]; simp)))) ?_
        refine hl_yg 8 54 false rfl rfl rfl rfl rfl (y_pick (b := true) rfl rfl rfl) ?_
        refine hl_y rfl rfl rfl (y_pick (b := false) rfl rfl rfl) ?_
        refine hl_nil ?_
        refine hq_then ?_
        refine hc_ifF rfl ?_
        refine hc_skip ?_
        refine hq_then ?_
        refine hc_seq ?_
        refine hc_region ?_
        refine hl_y rfl rfl rfl (y_assign (v := vs []) rfl rfl) ?_
        refine hl_nil ?_
        refine hq_then ?_
        refine hc_seq ?_
        refine hc_region ?_
        refine hl_y rfl rfl rfl (y_move rfl rfl) ?_
        refine hl_y rfl rfl rfl (y_move rfl rfl) ?_
        refine hl_i rfl rfl rfl (e_call rfl F15 rfl (fun w hw => hex_Rows_ct _ _ wd (by omega) w ((rdF hv) w hw) (by omega)) rfl) ?_; intro y65
        refine hl_y rfl rfl rfl (y_assign rfl rfl) ?_
        refine hl_nil ?_
        refine hq_then ?_
        refine hc_seq ?_
        refine hc_seq ?_
        refine hc_region ?_
        refine hl_y rfl rfl rfl (y_assign (v := vi 0) rfl rfl) ?_
        refine hl_nil ?_
        refine hq_then ?_
        refine hc_block ?_
        refine hc_loop (fun k => k ≤ (rowsL l wd).length) (fun k => (rowsL l wd).length - k) (fun k => [(0, v), (2, vi wd), (14, y65), (15, vi k), (13, vs ((rowsL l wd).take k).flatten)]) (fun k => Mm w [.row 9 y65 (ls vs (rowsL l wd))]) (0) (by omega) ⟨rfl, lk_int rfl (by omega), rfl, lk_int rfl (by omega), rfl, trivial⟩ (fun _ h => Mm.pick h [0] (by decide)) ?_
        intro k hk
        have hR := rows_le l wd
        refine hc_seq ?_
        refine hc_seq ?_
        refine hc_region ?_
        refine hl_y rfl rfl rfl (y_move rfl rfl) ?_
        refine hl_y rfl rfl rfl (y_move rfl rfl) ?_
        refine hl_y rfl rfl rfl (y_lenE ((rowsL l wd).length) rfl rfl S24 rfl (rdR 0 rfl) (by first | rfl | simp only [ls_len, ns_len] | (simp only [ls_len, ns_len]; omega))) ?_
        refine hl_y rfl rfl rfl (y_lssn rfl rfl rfl ) ?_
        refine hl_nil ?_
        refine hq_then ?_
        refine hc_if rfl (fun c7 => ?_) (fun c7 => ?_)
        · replace c7 := of_decide_eq_true c7
          refine hc_skip ?_
          refine hq_then ?_
          refine hc_seq ?_
          refine hc_block ?_
          refine hc_region ?_
          refine hl_y rfl rfl rfl (y_move rfl rfl) ?_
          refine hl_y rfl rfl rfl (y_move rfl rfl) ?_
          refine hl_y rfl rfl rfl (y_move rfl rfl) ?_
          refine hl_y rfl rfl rfl (y_ixs rfl S24 rfl (rdR 0 rfl) rfl (by first | omega | (simp only [ls_len, ns_len]; omega) | (simp only [List.length_take, List.length_drop, ls_len, ns_len]; omega))) ?_
          refine hl_y rfl rfl rfl (y_ldt rfl O9 rfl (rdR 0 rfl) (by omega)) ?_
          refine hl_y rfl rfl rfl (y_cat rfl rfl rfl (by have := flat_add (l := l) (w := wd) (k := k) (by omega); omega)) ?_
          refine hl_y rfl rfl rfl (y_assign rfl rfl) ?_
          refine hl_nil ?_
          refine hq_in (hq_then ?_)
          refine hc_region ?_
          refine hl_y rfl rfl rfl (y_move rfl rfl) ?_
          refine hl_y rfl rfl rfl (y_addn (q := 1) rfl rfl rfl (by omega)) ?_
          refine hl_y rfl rfl rfl (y_assign rfl rfl) ?_
          refine hl_nil ?_
          exact hq_round (k + 1) (by omega) (by omega) ⟨rfl, lk_int rfl (by omega), rfl, lk_int rfl (by omega), lk_eq rfl (congrArg vs (flat_next (by omega))), trivial⟩ (fun _ h => h)
        · replace c7 := of_decide_eq_false c7
          refine hc_exit ?_
          refine hq_then_exit (hq_loop_exit (hq_in_same (hq_then ?_)))
          refine hc_seq ?_
          rcases Decidable.em (wd < 1) with c5 | c5
          · skip
            refine hc_region ?_
            refine hl_y rfl rfl rfl (y_move rfl rfl) ?_
            refine hl_y rfl rfl rfl (y_as (y_lssn (q := 1) rfl rfl rfl ) (congrArg Value.bool (decide_eq_true (by omega)))) ?_
            refine hl_y rfl rfl rfl (y_move rfl rfl) ?_
            refine hl_no 2 80 false true rfl rfl rfl rfl rfl rfl ?_
            refine hl_no 2 80 false true rfl rfl rfl rfl rfl rfl ?_
            refine hl_y rfl rfl rfl (y_pick (b := true) rfl rfl rfl) ?_
            refine hl_y rfl rfl rfl (y_move rfl rfl) ?_
            refine hl_no 6 84 false true rfl rfl rfl rfl rfl rfl ?_
            refine hl_no 6 84 false true rfl rfl rfl rfl rfl rfl ?_
            refine hl_no 6 84 false true rfl rfl rfl rfl rfl rfl ?_
            refine hl_no 6 84 false true rfl rfl rfl rfl rfl rfl ?_
            refine hl_y rfl rfl rfl (y_pick (b := true) rfl rfl rfl) ?_
            refine hl_y rfl rfl rfl (y_move rfl rfl) ?_
            refine hl_ig 12 90 true rfl rfl rfl rfl rfl (e_call0 rfl F14 rfl (fun w hw => law04_alive_ct w) rfl) ?_; intro _
            refine hl_y rfl rfl rfl (y_pick (b := true) rfl rfl rfl) ?_
            refine hl_y rfl rfl rfl (y_assign rfl rfl) ?_
            refine hl_nil ?_
            refine hq_then ?_
            refine hc_ret ?_
            exact hq_ret1 (()) rfl (rv_tmp rfl) rfl (fun _ h => Mm.pick h [] (by simp))
          · skip
            rcases Decidable.em (64 < wd) with c6 | c6
            · skip
              refine hc_region ?_
              refine hl_y rfl rfl rfl (y_move rfl rfl) ?_
              refine hl_y rfl rfl rfl (y_as (y_lssn (q := 1) rfl rfl rfl ) (congrArg Value.bool (decide_eq_false (by omega)))) ?_
              refine hl_y rfl rfl rfl (y_move rfl rfl) ?_
              refine hl_yg 2 80 false rfl rfl rfl rfl rfl (y_move rfl rfl) ?_
              refine hl_yg 2 80 false rfl rfl rfl rfl rfl (y_as (y_gtrn (q := 64) rfl rfl rfl ) (congrArg Value.bool (decide_eq_true (by omega)))) ?_
              refine hl_y rfl rfl rfl (y_pick (b := false) rfl rfl rfl) ?_
              refine hl_y rfl rfl rfl (y_move rfl rfl) ?_
              refine hl_no 6 84 false true rfl rfl rfl rfl rfl rfl ?_
              refine hl_no 6 84 false true rfl rfl rfl rfl rfl rfl ?_
              refine hl_no 6 84 false true rfl rfl rfl rfl rfl rfl ?_
              refine hl_no 6 84 false true rfl rfl rfl rfl rfl rfl ?_
              refine hl_y rfl rfl rfl (y_pick (b := true) rfl rfl rfl) ?_
              refine hl_y rfl rfl rfl (y_move rfl rfl) ?_
              refine hl_ig 12 90 true rfl rfl rfl rfl rfl (e_call0 rfl F14 rfl (fun w hw => law04_alive_ct w) rfl) ?_; intro _
              refine hl_y rfl rfl rfl (y_pick (b := true) rfl rfl rfl) ?_
              refine hl_y rfl rfl rfl (y_assign rfl rfl) ?_
              refine hl_nil ?_
              refine hq_then ?_
              refine hc_ret ?_
              exact hq_ret1 (()) rfl (rv_tmp rfl) rfl (fun _ h => Mm.pick h [] (by simp))
            · skip
              refine hc_region ?_
              refine hl_y rfl rfl rfl (y_move rfl rfl) ?_
              refine hl_y rfl rfl rfl (y_as (y_lssn (q := 1) rfl rfl rfl ) (congrArg Value.bool (decide_eq_false (by omega)))) ?_
              refine hl_y rfl rfl rfl (y_move rfl rfl) ?_
              refine hl_yg 2 80 false rfl rfl rfl rfl rfl (y_move rfl rfl) ?_
              refine hl_yg 2 80 false rfl rfl rfl rfl rfl (y_as (y_gtrn (q := 64) rfl rfl rfl ) (congrArg Value.bool (decide_eq_false (by omega)))) ?_
              refine hl_y rfl rfl rfl (y_pick (b := false) rfl rfl rfl) ?_
              refine hl_y rfl rfl rfl (y_move rfl rfl) ?_
              refine hl_yg 6 84 false rfl rfl rfl rfl rfl (y_move rfl rfl) ?_
              refine hl_yg 6 84 false rfl rfl rfl rfl rfl (y_move rfl rfl) ?_
              refine hl_ig 6 84 false rfl rfl rfl rfl rfl (e_call0 rfl F16 rfl (fun w hw => hex_Print_ct l _ w ((rdF hv) w hw) (by omega)) rfl) ?_; intro _
              refine hl_yg 6 84 false rfl rfl rfl rfl rfl (y_as (y_eqls rfl rfl rfl) (congrArg Value.bool (decide_eq_true (by rw [show k = (rowsL l wd).length from by omega, List.take_length]; exact rows_all (by omega) (by omega))))) ?_
              refine hl_y rfl rfl rfl (y_pick (b := false) rfl rfl rfl) ?_
              refine hl_y rfl rfl rfl (y_move rfl rfl) ?_
              refine hl_ig 12 90 true rfl rfl rfl rfl rfl (e_call0 rfl F14 rfl (fun w hw => law04_alive_ct w) rfl) ?_; intro _
              refine hl_y rfl rfl rfl (y_pick (b := true) rfl rfl rfl) ?_
              refine hl_y rfl rfl rfl (y_assign rfl rfl) ?_
              refine hl_nil ?_
              refine hq_then ?_
              refine hc_ret ?_
              exact hq_ret1 (()) rfl (rv_tmp rfl) rfl (fun _ h => Mm.pick h [] (by simp))

theorem hexBack_n (l : List UInt8) (v : Value) (sl : List UInt8) (wd : Int) (hb : -9223372036854775808 ≤ wd) (hn0 : wd < 0) (w : World) (hv : Rd w v (ls vb l)) (hm : l.length ≤ 9223372036854775807) : Ct0 Try.prog 7 #[v, vs sl, .int .i64 wd] w (.bool true) := by
  refine ct0_of Try.func7 rfl Try.ntmps7 rfl ?_
  refine hc_seq ?_
  refine hc_region ?_
  refine hl_y rfl rfl rfl (y_assign rfl rfl) ?_
  refine hl_nil ?_
  refine hq_then ?_
  refine hc_seq ?_
  refine hc_seq ?_
  rcases Decidable.em (300 < l.length) with k0 | k0
  · skip
    refine hc_region ?_
    refine hl_y rfl rfl rfl (y_move rfl rfl) ?_
    refine hl_y rfl rfl rfl (y_lenE (l.length) rfl rfl S22 rfl (rdF hv) (by first | rfl | simp only [ls_len, ns_len] | (simp only [ls_len, ns_len]; omega))) ?_
    refine hl_y rfl rfl rfl (y_as (y_gtrn (q := 300) rfl rfl rfl ) (congrArg Value.bool (decide_eq_true (by omega)))) ?_
    refine hl_y rfl rfl rfl (y_move rfl rfl) ?_
    refine hl_no 3 19 false true rfl rfl rfl rfl rfl rfl ?_
    refine hl_no 3 19 false true rfl rfl rfl rfl rfl rfl ?_
    refine hl_no 3 19 false true rfl rfl rfl rfl rfl rfl ?_
    refine hl_y rfl rfl rfl (y_pick (b := true) rfl rfl rfl) ?_
    refine hl_nil ?_
    refine hq_then ?_
    refine hc_ifT rfl ?_
    refine hc_seq ?_
    refine hc_region ?_
    refine hl_i rfl rfl rfl (e_call0 rfl F14 rfl (fun w hw => law04_alive_ct w) rfl) ?_; intro _
    refine hl_y rfl rfl rfl (y_assign rfl rfl) ?_
    refine hl_nil ?_
    refine hq_then ?_
    refine hc_ret ?_
    exact hq_then_ret (hq_ret1 (()) rfl (rv_tmp rfl) rfl (fun _ h => Mm.pick h [] (by simp)))
  · skip
    rcases Decidable.em (300 < sl.length) with k1 | k1
    · skip
      refine hc_region ?_
      refine hl_y rfl rfl rfl (y_move rfl rfl) ?_
      refine hl_y rfl rfl rfl (y_lenE (l.length) rfl rfl S22 rfl (rdF hv) (by first | rfl | simp only [ls_len, ns_len] | (simp only [ls_len, ns_len]; omega))) ?_
      refine hl_y rfl rfl rfl (y_as (y_gtrn (q := 300) rfl rfl rfl ) (congrArg Value.bool (decide_eq_false (by omega)))) ?_
      refine hl_y rfl rfl rfl (y_move rfl rfl) ?_
      refine hl_yg 3 19 false rfl rfl rfl rfl rfl (y_move rfl rfl) ?_
      refine hl_yg 3 19 false rfl rfl rfl rfl rfl (y_lent rfl rfl U9 rfl) ?_
      refine hl_yg 3 19 false rfl rfl rfl rfl rfl (y_as (y_gtrn (q := 300) rfl rfl rfl ) (congrArg Value.bool (decide_eq_true (by omega)))) ?_
      refine hl_y rfl rfl rfl (y_pick (b := false) rfl rfl rfl) ?_
      refine hl_nil ?_
      refine hq_then ?_
      refine hc_ifT rfl ?_
      refine hc_seq ?_
      refine hc_region ?_
      refine hl_i rfl rfl rfl (e_call0 rfl F14 rfl (fun w hw => law04_alive_ct w) rfl) ?_; intro _
      refine hl_y rfl rfl rfl (y_assign rfl rfl) ?_
      refine hl_nil ?_
      refine hq_then ?_
      refine hc_ret ?_
      exact hq_then_ret (hq_ret1 (()) rfl (rv_tmp rfl) rfl (fun _ h => Mm.pick h [] (by simp)))
    · skip
      refine hc_region ?_
      refine hl_y rfl rfl rfl (y_move rfl rfl) ?_
      refine hl_y rfl rfl rfl (y_lenE (l.length) rfl rfl S22 rfl (rdF hv) (by first | rfl | simp only [ls_len, ns_len] | (simp only [ls_len, ns_len]; omega))) ?_
      refine hl_y rfl rfl rfl (y_as (y_gtrn (q := 300) rfl rfl rfl ) (congrArg Value.bool (decide_eq_false (by omega)))) ?_
      refine hl_y rfl rfl rfl (y_move rfl rfl) ?_
      refine hl_yg 3 19 false rfl rfl rfl rfl rfl (y_move rfl rfl) ?_
      refine hl_yg 3 19 false rfl rfl rfl rfl rfl (y_lent rfl rfl U9 rfl) ?_
      refine hl_yg 3 19 false rfl rfl rfl rfl rfl (y_as (y_gtrn (q := 300) rfl rfl rfl ) (congrArg Value.bool (decide_eq_false (by omega)))) ?_
      refine hl_y rfl rfl rfl (y_pick (b := false) rfl rfl rfl) ?_
      refine hl_nil ?_
      refine hq_then ?_
      refine hc_ifF rfl ?_
      refine hc_skip ?_
      refine hq_then ?_
      refine hc_seq ?_
      refine hc_region ?_
      refine hl_y rfl rfl rfl (y_move rfl rfl) ?_
      refine hl_i rfl rfl rfl (e_call0 rfl F16 rfl (fun w hw => hex_Print_ct _ _ w ((rdF hv) w hw) (by omega)) rfl) ?_; intro _
      refine hl_i rfl rfl rfl (e_call rfl F31 rfl (fun w hw => hex_Parse_ct ((hexL (l))) w (by rw [hexL_len]; omega)) rfl) ?_; intro y28
      refine hl_y rfl rfl rfl (y_move rfl rfl) ?_
      refine hl_y rfl rfl rfl (y_extract rfl rfl rfl) ?_
      refine hl_y rfl rfl rfl (y_extract rfl rfl rfl) ?_
      refine hl_y rfl rfl rfl (y_extract rfl rfl rfl) ?_
      refine hl_y rfl rfl rfl (y_assign rfl rfl) ?_
      refine hl_y rfl rfl rfl (y_assign rfl rfl) ?_
      refine hl_y rfl rfl rfl (y_assign rfl rfl) ?_
      refine hl_nil ?_
      refine hq_then ?_
      refine hc_seq ?_
      refine hc_seq ?_
      refine hc_region ?_
      refine hl_y rfl rfl rfl (y_move rfl rfl) ?_
      refine hl_y rfl rfl rfl (y_as (y_neqn (q := 0) rfl rfl rfl ) (congrArg Value.bool (decide_eq_false (fun h => h (parF_ok.2 (par_back l).1))))) ?_
      refine hl_y rfl rfl rfl (y_move rfl rfl) ?_
      refine hl_yg 2 34 false rfl rfl rfl rfl rfl (y_move rfl rfl) ?_
      refine hl_yg 2 34 false rfl rfl rfl rfl rfl (y_move rfl rfl) ?_
      refine hl_ig 2 34 false rfl rfl rfl rfl rfl (e_call0 rfl F32 rfl (fun w hw => r01_Same_t _ _ _ _ w ((rdR 0 rfl) w hw) ((rdF hv) w hw) (by rw [(par_back l).2]; omega) (par_back l).2) rfl) ?_; intro _
      refine hl_yg 2 34 false rfl rfl rfl rfl rfl (y_not rfl rfl) ?_
      refine hl_y rfl rfl rfl (y_pick (b := false) rfl rfl rfl) ?_
      refine hl_nil ?_
      refine hq_then ?_
      refine hc_ifF rfl ?_
      refine hc_skip ?_
      refine hq_then ?_
      refine hc_seq ?_
      refine hc_region ?_
      refine hl_y rfl rfl rfl (y_move rfl rfl) ?_
      refine hl_i rfl rfl rfl (e_call rfl F31 rfl (fun w hw => hex_Parse_ct (sl) w (by omega)) rfl) ?_; intro y42
      refine hl_y rfl rfl rfl (y_move rfl rfl) ?_
      refine hl_y rfl rfl rfl (y_extract rfl rfl rfl) ?_
      refine hl_y rfl rfl rfl (y_extract rfl rfl rfl) ?_
      refine hl_y rfl rfl rfl (y_extract rfl rfl rfl) ?_
      refine hl_y rfl rfl rfl (y_assign rfl rfl) ?_
      refine hl_y rfl rfl rfl (y_assign rfl rfl) ?_
      refine hl_y rfl rfl rfl (y_assign rfl rfl) ?_
      refine hl_nil ?_
      refine hq_then ?_
      refine hc_seq ?_
      refine hc_seq ?_
      rcases Decidable.em (parF sl = 0) with c2 | c2
      · skip
        refine hc_region ?_
        refine hl_y rfl rfl rfl (y_move rfl rfl) ?_
        refine hl_y rfl rfl rfl (y_as (y_eqln (q := 0) rfl rfl rfl ) (congrArg Value.bool (decide_eq_true (c2)))) ?_
        refine hl_y rfl rfl rfl (y_move rfl rfl) ?_
        refine hl_yg 2 48 true rfl rfl rfl rfl rfl (y_move rfl rfl) ?_
        refine hl_ig 2 48 true rfl rfl rfl rfl rfl (e_call0 rfl F16 rfl (fun w hw => hex_Print_ct (parA sl) _ w ((rdR 0 rfl) w hw) (by rw [parA]; split <;> (try rw [parN_len]) <;> (try simp) <;> omega)) rfl) ?_; intro _
        refine hl_yg 2 48 true rfl rfl rfl rfl rfl (y_move rfl rfl) ?_
        refine hl_yg 2 48 true rfl rfl rfl rfl rfl (y_as (y_neqs rfl rfl rfl) (congrArg Value.bool (decide_eq_false (fun h => h (par_print (parF_ok.1 c2)))))) ?_
        refine hl_y rfl rfl rfl (y_pick (b := true) rfl rfl rfl) ?_
        refine hl_y rfl rfl rfl (y_move rfl rfl) ?_
        refine hl_yg 8 54 false rfl rfl rfl rfl rfl (y_move rfl rfl) ?_
        refine hl_yg 8 54 false rfl rfl rfl rfl rfl (y_as (y_neqn (q := 0) rfl rfl rfl ) (congrArg Value.bool (decide_eq_false (fun h => h c2)))) ?_
        refine hl_yg 8 54 false rfl rfl rfl rfl rfl (y_move rfl rfl) ?_
        refine hl_no 11 57 true false rfl rfl rfl rfl rfl rfl ?_
        refine hl_no 11 57 true false rfl rfl rfl rfl rfl rfl ?_
        refine hl_no 11 57 true false rfl rfl rfl rfl rfl rfl ?_
        refine hl_yg 8 54 false rfl rfl rfl rfl rfl (y_pick (b := false) rfl rfl rfl) ?_
        refine hl_y rfl rfl rfl (y_pick (b := false) rfl rfl rfl) ?_
        refine hl_nil ?_
        refine hq_then ?_
        refine hc_ifF rfl ?_
        refine hc_skip ?_
        refine hq_then ?_
        refine hc_seq ?_
        refine hc_region ?_
        refine hl_y rfl rfl rfl (y_assign (v := vs []) rfl rfl) ?_
        refine hl_nil ?_
        refine hq_then ?_
        refine hc_seq ?_
        refine hc_region ?_
        refine hl_y rfl rfl rfl (y_move rfl rfl) ?_
        refine hl_y rfl rfl rfl (y_move rfl rfl) ?_
        refine hl_i rfl rfl rfl (e_call0 rfl F15 rfl (fun w hw => hex_Rows_neg _ _ _ (by omega) (by omega) w ((rdF hv) w hw)) rfl) ?_; intro _
        refine hl_y rfl rfl rfl (y_assign rfl rfl) ?_
        refine hl_nil ?_
        refine hq_then ?_
        refine hc_seq ?_
        refine hc_seq ?_
        refine hc_region ?_
        refine hl_y rfl rfl rfl (y_assign (v := vi 0) rfl rfl) ?_
        refine hl_nil ?_
        refine hq_then ?_
        refine hc_block ?_
        refine hc_loop (fun k => k = 0) (fun k => 0) (fun k => [(0, v), (2, .int .i64 wd), (14, .slice none 0 0), (15, vi k)]) (fun k => Mm w []) (0) rfl ⟨rfl, lk_int rfl (by omega), rfl, lk_int rfl (by omega), trivial⟩ (fun _ h => Mm.pick h [] (by decide)) ?_
        intro k hk
        refine hc_seq ?_
        refine hc_seq ?_
        refine hc_region ?_
        refine hl_y rfl rfl rfl (y_move rfl rfl) ?_
        refine hl_y rfl rfl rfl (y_move rfl rfl) ?_
        refine hl_y rfl rfl rfl (y_lenE 0 rfl rfl S24 rfl rd_nil rfl) ?_
        refine hl_y rfl rfl rfl (y_as (y_lssn rfl rfl rfl ) (congrArg Value.bool (decide_eq_false (by omega)))) ?_
        refine hl_nil ?_
        refine hq_then ?_
        refine hc_ifF rfl ?_
        refine hc_exit ?_
        refine hq_then_exit (hq_loop_exit (hq_in_same (hq_then ?_)))
        refine hc_seq ?_
        refine hc_region ?_
        refine hl_y rfl rfl rfl (y_move rfl rfl) ?_
        refine hl_y rfl rfl rfl (y_as (y_lssi (q := 1) rfl rfl rfl ) (congrArg Value.bool (decide_eq_true (by omega)))) ?_
        refine hl_y rfl rfl rfl (y_move rfl rfl) ?_
        refine hl_no 2 80 false true rfl rfl rfl rfl rfl rfl ?_
        refine hl_no 2 80 false true rfl rfl rfl rfl rfl rfl ?_
        refine hl_y rfl rfl rfl (y_pick (b := true) rfl rfl rfl) ?_
        refine hl_y rfl rfl rfl (y_move rfl rfl) ?_
        refine hl_no 6 84 false true rfl rfl rfl rfl rfl rfl ?_
        refine hl_no 6 84 false true rfl rfl rfl rfl rfl rfl ?_
        refine hl_no 6 84 false true rfl rfl rfl rfl rfl rfl ?_
        refine hl_no 6 84 false true rfl rfl rfl rfl rfl rfl ?_
        refine hl_y rfl rfl rfl (y_pick (b := true) rfl rfl rfl) ?_
        refine hl_y rfl rfl rfl (y_move rfl rfl) ?_
        refine hl_ig 12 90 true rfl rfl rfl rfl rfl (e_call0 rfl F14 rfl (fun w hw => law04_alive_ct w) rfl) ?_; intro _
        refine hl_y rfl rfl rfl (y_pick (b := true) rfl rfl rfl) ?_
        refine hl_y rfl rfl rfl (y_assign rfl rfl) ?_
        refine hl_nil ?_
        refine hq_then ?_
        refine hc_ret ?_
        exact hq_ret1 (()) rfl (rv_tmp rfl) rfl (fun _ h => Mm.pick h [] (by simp))
      · skip
        refine hc_region ?_
        refine hl_y rfl rfl rfl (y_move rfl rfl) ?_
        refine hl_y rfl rfl rfl (y_as (y_eqln (q := 0) rfl rfl rfl ) (congrArg Value.bool (decide_eq_false (c2)))) ?_
        refine hl_y rfl rfl rfl (y_move rfl rfl) ?_
        refine hl_no 2 48 true false rfl rfl rfl rfl rfl rfl ?_
        refine hl_no 2 48 true false rfl rfl rfl rfl rfl rfl ?_
        refine hl_no 2 48 true false rfl rfl rfl rfl rfl rfl ?_
        refine hl_no 2 48 true false rfl rfl rfl rfl rfl rfl ?_
        refine hl_y rfl rfl rfl (y_pick (b := false) rfl rfl rfl) ?_
        refine hl_y rfl rfl rfl (y_move rfl rfl) ?_
        refine hl_yg 8 54 false rfl rfl rfl rfl rfl (y_move rfl rfl) ?_
        refine hl_yg 8 54 false rfl rfl rfl rfl rfl (y_as (y_neqn (q := 0) rfl rfl rfl ) (congrArg Value.bool (decide_eq_true (c2)))) ?_
        refine hl_yg 8 54 false rfl rfl rfl rfl rfl (y_move rfl rfl) ?_
        refine hl_yg 11 57 true rfl rfl rfl rfl rfl (y_move rfl rfl) ?_
        refine hl_yg 11 57 true rfl rfl rfl rfl rfl (y_lenE ((parA (sl)).length) rfl rfl S22 rfl (rdR 0 rfl) (by first | rfl | simp only [ls_len, ns_len] | (simp only [ls_len, ns_len]; omega))) ?_
        refine hl_yg 11 57 true rfl rfl rfl rfl rfl (y_as (y_gtrn (q := 0) rfl rfl rfl ) (congrArg Value.bool (decide_eq_false (by rw [par_none (fun h => c2 (parF_ok.2 h))]; simp)))) ?_
        refine hl_yg 8 54 false rfl rfl rfl rfl rfl (y_pick (b := true) rfl rfl rfl) ?_
        refine hl_y rfl rfl rfl (y_pick (b := false) rfl rfl rfl) ?_
        refine hl_nil ?_
        refine hq_then ?_
        refine hc_ifF rfl ?_
        refine hc_skip ?_
        refine hq_then ?_
        refine hc_seq ?_
        refine hc_region ?_
        refine hl_y rfl rfl rfl (y_assign (v := vs []) rfl rfl) ?_
        refine hl_nil ?_
        refine hq_then ?_
        refine hc_seq ?_
        refine hc_region ?_
        refine hl_y rfl rfl rfl (y_move rfl rfl) ?_
        refine hl_y rfl rfl rfl (y_move rfl rfl) ?_
        refine hl_i rfl rfl rfl (e_call0 rfl F15 rfl (fun w hw => hex_Rows_neg _ _ _ (by omega) (by omega) w ((rdF hv) w hw)) rfl) ?_; intro _
        refine hl_y rfl rfl rfl (y_assign rfl rfl) ?_
        refine hl_nil ?_
        refine hq_then ?_
        refine hc_seq ?_
        refine hc_seq ?_
        refine hc_region ?_
        refine hl_y rfl rfl rfl (y_assign (v := vi 0) rfl rfl) ?_
        refine hl_nil ?_
        refine hq_then ?_
        refine hc_block ?_
        refine hc_loop (fun k => k = 0) (fun k => 0) (fun k => [(0, v), (2, .int .i64 wd), (14, .slice none 0 0), (15, vi k)]) (fun k => Mm w []) (0) rfl ⟨rfl, lk_int rfl (by omega), rfl, lk_int rfl (by omega), trivial⟩ (fun _ h => Mm.pick h [] (by decide)) ?_
        intro k hk
        refine hc_seq ?_
        refine hc_seq ?_
        refine hc_region ?_
        refine hl_y rfl rfl rfl (y_move rfl rfl) ?_
        refine hl_y rfl rfl rfl (y_move rfl rfl) ?_
        refine hl_y rfl rfl rfl (y_lenE 0 rfl rfl S24 rfl rd_nil rfl) ?_
        refine hl_y rfl rfl rfl (y_as (y_lssn rfl rfl rfl ) (congrArg Value.bool (decide_eq_false (by omega)))) ?_
        refine hl_nil ?_
        refine hq_then ?_
        refine hc_ifF rfl ?_
        refine hc_exit ?_
        refine hq_then_exit (hq_loop_exit (hq_in_same (hq_then ?_)))
        refine hc_seq ?_
        refine hc_region ?_
        refine hl_y rfl rfl rfl (y_move rfl rfl) ?_
        refine hl_y rfl rfl rfl (y_as (y_lssi (q := 1) rfl rfl rfl ) (congrArg Value.bool (decide_eq_true (by omega)))) ?_
        refine hl_y rfl rfl rfl (y_move rfl rfl) ?_
        refine hl_no 2 80 false true rfl rfl rfl rfl rfl rfl ?_
        refine hl_no 2 80 false true rfl rfl rfl rfl rfl rfl ?_
        refine hl_y rfl rfl rfl (y_pick (b := true) rfl rfl rfl) ?_
        refine hl_y rfl rfl rfl (y_move rfl rfl) ?_
        refine hl_no 6 84 false true rfl rfl rfl rfl rfl rfl ?_
        refine hl_no 6 84 false true rfl rfl rfl rfl rfl rfl ?_
        refine hl_no 6 84 false true rfl rfl rfl rfl rfl rfl ?_
        refine hl_no 6 84 false true rfl rfl rfl rfl rfl rfl ?_
        refine hl_y rfl rfl rfl (y_pick (b := true) rfl rfl rfl) ?_
        refine hl_y rfl rfl rfl (y_move rfl rfl) ?_
        refine hl_ig 12 90 true rfl rfl rfl rfl rfl (e_call0 rfl F14 rfl (fun w hw => law04_alive_ct w) rfl) ?_; intro _
        refine hl_y rfl rfl rfl (y_pick (b := true) rfl rfl rfl) ?_
        refine hl_y rfl rfl rfl (y_assign rfl rfl) ?_
        refine hl_nil ?_
        refine hq_then ?_
        refine hc_ret ?_
        exact hq_ret1 (()) rfl (rv_tmp rfl) rfl (fun _ h => Mm.pick h [] (by simp))

end Go.Proofs.Ytcdidapkpfnphaa
