/- The laws of sums: each call gives back true. -/
import Derived.Test.YtcdidapkpfnphaaDoorShaE
import Derived.Test.YtcdidapkpfnphaaDoorPureSha
import Derived.Test.YtcdidapkpfnphaaDoorCtrB
namespace Go.Proofs.YtcdidapkpfnphaaDoor
open Go.RowKit
set_option linter.unusedVariables false
set_option linter.unusedSimpArgs false
set_option maxRecDepth 100000
theorem law07_alive_ct (w : World) (hkl : KL w) : Ct0 Tryd.prog 20 #[] w (.bool true) := by
  refine ct0_of Tryd.func20 rfl Tryd.ntmps20 rfl ?_
  refine hc_seq ?_
  refine hc_region ?_
  refine hl_y rfl rfl rfl (y_assign rfl rfl) ?_
  refine hl_nil ?_
  refine hq_then ?_
  refine hc_seq ?_
  refine hc_region ?_
  refine hl_i rfl rfl rfl (e_call rfl F28 rfl (fun w hw => sha_Sum_ct ([]) _ w (rd_nilb w hw) (by first | omega | (simp only [List.length_append, List.length_take, List.length_drop, List.length_replicate, List.length_cons, List.length_nil, putL_len, shaL_len]; omega)) (hkl.below (Mm.out hw).low)) rfl) ?_; intro y2
  refine hl_y rfl rfl rfl (y_assign rfl rfl) ?_
  refine hl_nil ?_
  refine hq_then ?_
  refine hc_seq ?_
  refine hc_region ?_
  refine hl_y rfl rfl rfl (y_move rfl rfl) ?_
  refine hl_y rfl rfl rfl (y_lenE (32) rfl rfl S22 rfl (rdR 0 rfl) (by first | rfl | (simp only [ls_len, ns_len, List.length_append, List.length_take, List.length_drop, List.length_replicate, List.length_cons, List.length_nil, putL_len, shaL_len]; done) | (simp only [ls_len, ns_len, List.length_append, List.length_take, List.length_drop, List.length_replicate, List.length_cons, List.length_nil, putL_len, shaL_len]; omega))) ?_
  refine hl_y rfl rfl rfl (y_as (y_eqln (q := 32) rfl rfl rfl ) (congrArg Value.bool (decide_eq_true (by omega)))) ?_
  refine hl_y rfl rfl rfl (y_move rfl rfl) ?_
  refine hl_yg 3 6 true rfl rfl rfl rfl rfl (y_move rfl rfl) ?_
  refine hl_yg 3 6 true rfl rfl rfl rfl rfl (y_ixs (k := 0) rfl S22 rfl (rdR 0 rfl) rfl (by first | omega | (simp only [ls_len, ns_len, List.length_append, List.length_take, List.length_drop, List.length_replicate, List.length_cons, List.length_nil, putL_len, shaL_len]; omega) | (simp only [ls_len, ns_len, List.length_append, List.length_take, List.length_drop, List.length_replicate, List.length_cons, List.length_nil, putL_len, shaL_len] at *; omega))) ?_
  refine hl_yg 3 6 true rfl rfl rfl rfl rfl (y_ldb rfl O5 rfl (rdR 0 rfl) (by first | omega | (simp only [ls_len, ns_len, List.length_append, List.length_take, List.length_drop, List.length_replicate, List.length_cons, List.length_nil, putL_len, shaL_len]; omega) | (simp only [ls_len, ns_len, List.length_append, List.length_take, List.length_drop, List.length_replicate, List.length_cons, List.length_nil, putL_len, shaL_len] at *; omega))) ?_
  refine hl_yg 3 6 true rfl rfl rfl rfl rfl (y_as (y_eqlb (q := 227) rfl rfl rfl) (congrArg Value.bool (decide_eq_true (sha_nil.1)))) ?_
  refine hl_y rfl rfl rfl (y_pick (b := true) rfl rfl rfl) ?_
  refine hl_y rfl rfl rfl (y_move rfl rfl) ?_
  refine hl_yg 9 12 true rfl rfl rfl rfl rfl (y_move rfl rfl) ?_
  refine hl_yg 9 12 true rfl rfl rfl rfl rfl (y_ixs (k := 1) rfl S22 rfl (rdR 0 rfl) rfl (by first | omega | (simp only [ls_len, ns_len, List.length_append, List.length_take, List.length_drop, List.length_replicate, List.length_cons, List.length_nil, putL_len, shaL_len]; omega) | (simp only [ls_len, ns_len, List.length_append, List.length_take, List.length_drop, List.length_replicate, List.length_cons, List.length_nil, putL_len, shaL_len] at *; omega))) ?_
  refine hl_yg 9 12 true rfl rfl rfl rfl rfl (y_ldb rfl O5 rfl (rdR 0 rfl) (by first | omega | (simp only [ls_len, ns_len, List.length_append, List.length_take, List.length_drop, List.length_replicate, List.length_cons, List.length_nil, putL_len, shaL_len]; omega) | (simp only [ls_len, ns_len, List.length_append, List.length_take, List.length_drop, List.length_replicate, List.length_cons, List.length_nil, putL_len, shaL_len] at *; omega))) ?_
  refine hl_yg 9 12 true rfl rfl rfl rfl rfl (y_as (y_eqlb (q := 176) rfl rfl rfl) (congrArg Value.bool (decide_eq_true (sha_nil.2.1)))) ?_
  refine hl_y rfl rfl rfl (y_pick (b := true) rfl rfl rfl) ?_
  refine hl_y rfl rfl rfl (y_move rfl rfl) ?_
  refine hl_yg 15 18 true rfl rfl rfl rfl rfl (y_move rfl rfl) ?_
  refine hl_yg 15 18 true rfl rfl rfl rfl rfl (y_ixs (k := 2) rfl S22 rfl (rdR 0 rfl) rfl (by first | omega | (simp only [ls_len, ns_len, List.length_append, List.length_take, List.length_drop, List.length_replicate, List.length_cons, List.length_nil, putL_len, shaL_len]; omega) | (simp only [ls_len, ns_len, List.length_append, List.length_take, List.length_drop, List.length_replicate, List.length_cons, List.length_nil, putL_len, shaL_len] at *; omega))) ?_
  refine hl_yg 15 18 true rfl rfl rfl rfl rfl (y_ldb rfl O5 rfl (rdR 0 rfl) (by first | omega | (simp only [ls_len, ns_len, List.length_append, List.length_take, List.length_drop, List.length_replicate, List.length_cons, List.length_nil, putL_len, shaL_len]; omega) | (simp only [ls_len, ns_len, List.length_append, List.length_take, List.length_drop, List.length_replicate, List.length_cons, List.length_nil, putL_len, shaL_len] at *; omega))) ?_
  refine hl_yg 15 18 true rfl rfl rfl rfl rfl (y_as (y_eqlb (q := 196) rfl rfl rfl) (congrArg Value.bool (decide_eq_true (sha_nil.2.2.1)))) ?_
  refine hl_y rfl rfl rfl (y_pick (b := true) rfl rfl rfl) ?_
  refine hl_y rfl rfl rfl (y_move rfl rfl) ?_
  refine hl_yg 21 24 true rfl rfl rfl rfl rfl (y_move rfl rfl) ?_
  refine hl_yg 21 24 true rfl rfl rfl rfl rfl (y_ixs (k := 3) rfl S22 rfl (rdR 0 rfl) rfl (by first | omega | (simp only [ls_len, ns_len, List.length_append, List.length_take, List.length_drop, List.length_replicate, List.length_cons, List.length_nil, putL_len, shaL_len]; omega) | (simp only [ls_len, ns_len, List.length_append, List.length_take, List.length_drop, List.length_replicate, List.length_cons, List.length_nil, putL_len, shaL_len] at *; omega))) ?_
  refine hl_yg 21 24 true rfl rfl rfl rfl rfl (y_ldb rfl O5 rfl (rdR 0 rfl) (by first | omega | (simp only [ls_len, ns_len, List.length_append, List.length_take, List.length_drop, List.length_replicate, List.length_cons, List.length_nil, putL_len, shaL_len]; omega) | (simp only [ls_len, ns_len, List.length_append, List.length_take, List.length_drop, List.length_replicate, List.length_cons, List.length_nil, putL_len, shaL_len] at *; omega))) ?_
  refine hl_yg 21 24 true rfl rfl rfl rfl rfl (y_as (y_eqlb (q := 66) rfl rfl rfl) (congrArg Value.bool (decide_eq_true (sha_nil.2.2.2)))) ?_
  refine hl_y rfl rfl rfl (y_pick (b := true) rfl rfl rfl) ?_
  refine hl_y rfl rfl rfl (y_assign rfl rfl) ?_
  refine hl_nil ?_
  refine hq_then ?_
  refine hc_ret ?_
  exact hq_ret1 (()) rfl (rv_tmp rfl) rfl (fun _ h => Mm.pick h [] (by simp))

theorem shaBlocks_p (hf : Nat → UInt32) (l : List UInt8) (v : Value) (n : Nat) (hn : n ≤ 9223372036854775807) (w : World) (hv : Rd w v (ls vb l)) (hml : l.length ≤ 9223372036854775807) (hkl : KL w) : Ct0 Tryd.prog 4 #[.agg (ns vw 8 (hf)).toArray, v, vi n] w (.bool true) := by
  refine ct0_of Tryd.func4 rfl Tryd.ntmps4 rfl ?_
  refine hc_seq ?_
  refine hc_region ?_
  refine hl_i rfl rfl rfl (e_boxa rfl rfl) ?_; intro g3
  refine hl_y rfl rfl rfl (y_assign rfl rfl) ?_
  refine hl_nil ?_
  refine hq_then ?_
  refine hc_seq ?_
  refine hc_seq ?_
  refine hc_region ?_
  refine hl_y rfl rfl rfl (y_move rfl rfl) ?_
  refine hl_y rfl rfl rfl (y_lenE (l.length) rfl rfl S22 rfl (rdF hv) (by first | rfl | (simp only [ls_len, ns_len, List.length_append, List.length_take, List.length_drop, List.length_replicate, List.length_cons, List.length_nil, putL_len, shaL_len]; done) | (simp only [ls_len, ns_len, List.length_append, List.length_take, List.length_drop, List.length_replicate, List.length_cons, List.length_nil, putL_len, shaL_len]; omega))) ?_
  refine hl_y rfl rfl rfl (y_gtrn (q := 200) rfl rfl rfl ) ?_
  refine hl_nil ?_
  refine hq_then ?_
  refine hc_if rfl (fun c0 => ?_) (fun c0 => ?_)
  · replace c0 := of_decide_eq_true c0
    refine hc_seq ?_
    refine hc_region ?_
    refine hl_i rfl rfl rfl (e_call0 rfl F20 rfl (fun w hw => law07_alive_ct w (hkl.below (Mm.out hw).low)) rfl) ?_; intro _
    refine hl_y rfl rfl rfl (y_assign rfl rfl) ?_
    refine hl_nil ?_
    refine hq_then ?_
    refine hc_ret ?_
    exact hq_then_ret (hq_ret1 (()) rfl (rv_tmp rfl) rfl (fun _ h => Mm.pick h [] (by simp)))
  · replace c0 := of_decide_eq_false c0
    refine hc_skip ?_
    refine hq_then ?_
    refine hc_seq ?_
    refine hc_drawP [0] follows_mixed ?_
    refine hh_y 0 rfl rfl rfl rfl (by kernel_rfl) (by kernel_rfl) (by kernel_rfl) (fun _ h => Mm.pick h [0] (by decide)) (y_move rfl rfl) ?_
    refine hh_y 2 rfl rfl rfl rfl (by kernel_rfl) (by kernel_rfl) (by kernel_rfl) (fun _ h => Mm.pick h [0] (by decide)) (y_move rfl rfl) ?_
    refine hh_i 1 rfl rfl rfl rfl (by kernel_rfl) (e_call rfl F21 rfl (fun w hw => sha_Pad_ct n (by omega) w) rfl) (fun _ _ h => Mm.pick h [1] (by decide)) ?_; intro y12
    refine hh_i 3 rfl rfl rfl rfl (by kernel_rfl) (e_call rfl F22 rfl (fun w hw => r07_Pad_ct n (by omega) w) rfl) (fun _ _ h => Mm.pick h [2] (by decide)) ?_; intro y14
    refine hh_i 4 rfl rfl rfl rfl (by kernel_rfl) (e_call0 rfl F19 rfl (fun w hw => r01_Same_t _ _ _ _ w ((rdR 1 rfl) w hw) ((rdR 0 rfl) w hw) (by have := padG_le n; omega) rfl) rfl) (fun _ _ h => Mm.pick h [2] (by decide)) ?_; intro _
    refine hh_y 5 rfl rfl rfl rfl (by kernel_rfl) (by kernel_rfl) (by kernel_rfl) (fun _ h => Mm.pick h [2] (by decide)) (y_move rfl rfl) ?_
    refine hh_yg 6 5 16 true rfl rfl rfl rfl rfl rfl (by kernel_rfl) (by kernel_rfl) (by kernel_rfl) (fun _ h => Mm.pick h [2] (by decide)) (y_move rfl rfl) ?_
    refine hh_yg 8 5 16 true rfl rfl rfl rfl rfl rfl (by kernel_rfl) (by kernel_rfl) (by kernel_rfl) (fun _ h => Mm.pick h [2] (by decide)) (y_move rfl rfl) ?_
    refine hh_ig 7 5 16 true rfl rfl rfl rfl rfl rfl (by kernel_rfl) (e_call0 rfl F23 rfl (fun w hw => sha_Words_ct _ _ w ((rdF hv) w hw)) rfl) (fun _ _ h => Mm.pick h [2] (by decide)) ?_; intro _
    refine hh_ig 9 5 16 true rfl rfl rfl rfl rfl rfl (by kernel_rfl) (e_call0 rfl F24 rfl (fun w hw => r07_Words_ct _ _ w ((rdF hv) w hw)) rfl) (fun _ _ h => Mm.pick h [2] (by decide)) ?_; intro _
    refine hh_yg 10 5 16 true rfl rfl rfl rfl rfl rfl (by kernel_rfl) (by kernel_rfl) (by kernel_rfl) (fun _ h => Mm.pick h [2] (by decide)) (y_as (y_eqlarr Q31 rfl rfl rfl) (congrArg Value.bool (eqn_true (fun _ _ => rfl)))) ?_
    refine hh_y 11 rfl rfl rfl rfl (by kernel_rfl) (by kernel_rfl) (by kernel_rfl) (fun _ h => Mm.pick h [2] (by decide)) (y_pick (b := true) rfl rfl rfl) ?_
    refine hh_y 12 rfl rfl rfl rfl (by kernel_rfl) (by kernel_rfl) (by kernel_rfl) (fun _ h => Mm.pick h [2] (by decide)) (y_move rfl rfl) ?_
    refine hh_yg 13 12 23 true rfl rfl rfl rfl rfl rfl (by kernel_rfl) (by kernel_rfl) (by kernel_rfl) (fun _ h => Mm.pick h [2] (by decide)) (y_ldw 0 rfl T29 rfl rfl) ?_
    refine hh_yg 14 12 23 true rfl rfl rfl rfl rfl rfl (by kernel_rfl) (by kernel_rfl) (by kernel_rfl) (fun _ h => Mm.pick h [2] (by decide)) (y_move rfl rfl) ?_
    refine hh_yg 17 12 23 true rfl rfl rfl rfl rfl rfl (by kernel_rfl) (by kernel_rfl) (by kernel_rfl) (fun _ h => Mm.pick h [2] (by decide)) (y_ldw 0 rfl T29 rfl rfl) ?_
    refine hh_yg 18 12 23 true rfl rfl rfl rfl rfl rfl (by kernel_rfl) (by kernel_rfl) (by kernel_rfl) (fun _ h => Mm.pick h [2] (by decide)) (y_move rfl rfl) ?_
    refine hh_ig 15 12 23 true rfl rfl rfl rfl rfl rfl (by kernel_rfl) (e_call0 rfl F25 rfl (fun w hw => sha_Block_ct _ _ _ w ((rdF hv) w hw) (hkl.below (Mm.out hw).low)) rfl) (fun _ _ h => Mm.pick h [2] (by decide)) ?_; intro _
    refine hh_ig 16 12 23 true rfl rfl rfl rfl rfl rfl (by kernel_rfl) (e_call0 rfl F27 rfl (fun w hw => r07_Table_ct w) rfl) (fun _ _ h => Mm.pick h [2] (by decide)) ?_; intro _
    refine hh_ig 19 12 23 true rfl rfl rfl rfl rfl rfl (by kernel_rfl) (e_call0 rfl F26 rfl (fun w hw => r07_With_ct _ _ _ w ((rdF hv) w hw)) rfl) (fun _ _ h => Mm.pick h [2] (by decide)) ?_; intro _
    refine hh_yg 20 12 23 true rfl rfl rfl rfl rfl rfl (by kernel_rfl) (by kernel_rfl) (by kernel_rfl) (fun _ h => Mm.pick h [2] (by decide)) (y_as (y_eqlarr Q29 rfl rfl rfl) (congrArg Value.bool (eqn_true (fun _ _ => rfl)))) ?_
    refine hh_y 21 rfl rfl rfl rfl (by kernel_rfl) (by kernel_rfl) (by kernel_rfl) (fun _ h => Mm.pick h [2] (by decide)) (y_pick (b := true) rfl rfl rfl) ?_
    refine hh_y 22 rfl rfl rfl rfl (by kernel_rfl) (by kernel_rfl) (by kernel_rfl) (fun _ h => Mm.pick h [2] (by decide)) (y_move rfl rfl) ?_
    refine hh_ig 23 22 33 true rfl rfl rfl rfl rfl rfl (by kernel_rfl) (e_call0 rfl F20 rfl (fun w hw => law07_alive_ct w (hkl.below (Mm.out hw).low)) rfl) (fun _ _ h => Mm.pick h [2] (by decide)) ?_; intro _
    refine hh_y 24 rfl rfl rfl rfl (by kernel_rfl) (by kernel_rfl) (by kernel_rfl) (fun _ h => Mm.pick h [2] (by decide)) (y_pick (b := true) rfl rfl rfl) ?_
    refine hh_y 25 rfl rfl rfl rfl (by kernel_rfl) (by kernel_rfl) (by kernel_rfl) (fun _ h => Mm.pick h [2] (by decide)) (y_assign rfl rfl) ?_
    refine hh_done (by kernel_rfl) ?_
    refine hq_then ?_
    refine hc_ret ?_
    exact hq_ret1 (()) rfl (rv_tmp rfl) rfl (fun _ h => Mm.pick h [] (by simp))

theorem shaBlocks_n (hf : Nat → UInt32) (l : List UInt8) (v : Value) (n : Int) (hb : -9223372036854775808 ≤ n) (hn : n < 0) (w : World) (hv : Rd w v (ls vb l)) (hml : l.length ≤ 9223372036854775807) (hkl : KL w) : Ct0 Tryd.prog 4 #[.agg (ns vw 8 (hf)).toArray, v, .int .i64 n] w (.bool true) := by
  refine ct0_of Tryd.func4 rfl Tryd.ntmps4 rfl ?_
  refine hc_seq ?_
  refine hc_region ?_
  refine hl_i rfl rfl rfl (e_boxa rfl rfl) ?_; intro g3
  refine hl_y rfl rfl rfl (y_assign rfl rfl) ?_
  refine hl_nil ?_
  refine hq_then ?_
  refine hc_seq ?_
  refine hc_seq ?_
  refine hc_region ?_
  refine hl_y rfl rfl rfl (y_move rfl rfl) ?_
  refine hl_y rfl rfl rfl (y_lenE (l.length) rfl rfl S22 rfl (rdF hv) (by first | rfl | (simp only [ls_len, ns_len, List.length_append, List.length_take, List.length_drop, List.length_replicate, List.length_cons, List.length_nil, putL_len, shaL_len]; done) | (simp only [ls_len, ns_len, List.length_append, List.length_take, List.length_drop, List.length_replicate, List.length_cons, List.length_nil, putL_len, shaL_len]; omega))) ?_
  refine hl_y rfl rfl rfl (y_gtrn (q := 200) rfl rfl rfl ) ?_
  refine hl_nil ?_
  refine hq_then ?_
  refine hc_if rfl (fun c0 => ?_) (fun c0 => ?_)
  · replace c0 := of_decide_eq_true c0
    refine hc_seq ?_
    refine hc_region ?_
    refine hl_i rfl rfl rfl (e_call0 rfl F20 rfl (fun w hw => law07_alive_ct w (hkl.below (Mm.out hw).low)) rfl) ?_; intro _
    refine hl_y rfl rfl rfl (y_assign rfl rfl) ?_
    refine hl_nil ?_
    refine hq_then ?_
    refine hc_ret ?_
    exact hq_then_ret (hq_ret1 (()) rfl (rv_tmp rfl) rfl (fun _ h => Mm.pick h [] (by simp)))
  · replace c0 := of_decide_eq_false c0
    refine hc_skip ?_
    refine hq_then ?_
    refine hc_seq ?_
    refine hc_drawP [0] follows_mixed ?_
    refine hh_y 0 rfl rfl rfl rfl (by kernel_rfl) (by kernel_rfl) (by kernel_rfl) (fun _ h => Mm.pick h [0] (by decide)) (y_move rfl rfl) ?_
    refine hh_y 2 rfl rfl rfl rfl (by kernel_rfl) (by kernel_rfl) (by kernel_rfl) (fun _ h => Mm.pick h [0] (by decide)) (y_move rfl rfl) ?_
    refine hh_i 1 rfl rfl rfl rfl (by kernel_rfl) (e_call0 rfl F21 rfl (fun w hw => sha_Pad_neg _ (by omega) (by omega) w) rfl) (fun _ _ h => Mm.pick h [0] (by decide)) ?_; intro _
    refine hh_i 3 rfl rfl rfl rfl (by kernel_rfl) (e_call0 rfl F22 rfl (fun w hw => r07_Pad_neg _ (by omega) (by omega) w) rfl) (fun _ _ h => Mm.pick h [0] (by decide)) ?_; intro _
    refine hh_i 4 rfl rfl rfl rfl (by kernel_rfl) (e_call0 rfl F19 rfl (fun w hw => r01_Same_t _ _ _ _ w (rd_nilb w hw) (rd_nilb w hw) (by decide) rfl) rfl) (fun _ _ h => Mm.pick h [0] (by decide)) ?_; intro _
    refine hh_y 5 rfl rfl rfl rfl (by kernel_rfl) (by kernel_rfl) (by kernel_rfl) (fun _ h => Mm.pick h [0] (by decide)) (y_move rfl rfl) ?_
    refine hh_yg 6 5 16 true rfl rfl rfl rfl rfl rfl (by kernel_rfl) (by kernel_rfl) (by kernel_rfl) (fun _ h => Mm.pick h [0] (by decide)) (y_move rfl rfl) ?_
    refine hh_yg 8 5 16 true rfl rfl rfl rfl rfl rfl (by kernel_rfl) (by kernel_rfl) (by kernel_rfl) (fun _ h => Mm.pick h [0] (by decide)) (y_move rfl rfl) ?_
    refine hh_ig 7 5 16 true rfl rfl rfl rfl rfl rfl (by kernel_rfl) (e_call0 rfl F23 rfl (fun w hw => sha_Words_ct _ _ w ((rdF hv) w hw)) rfl) (fun _ _ h => Mm.pick h [0] (by decide)) ?_; intro _
    refine hh_ig 9 5 16 true rfl rfl rfl rfl rfl rfl (by kernel_rfl) (e_call0 rfl F24 rfl (fun w hw => r07_Words_ct _ _ w ((rdF hv) w hw)) rfl) (fun _ _ h => Mm.pick h [0] (by decide)) ?_; intro _
    refine hh_yg 10 5 16 true rfl rfl rfl rfl rfl rfl (by kernel_rfl) (by kernel_rfl) (by kernel_rfl) (fun _ h => Mm.pick h [0] (by decide)) (y_as (y_eqlarr Q31 rfl rfl rfl) (congrArg Value.bool (eqn_true (fun _ _ => rfl)))) ?_
    refine hh_y 11 rfl rfl rfl rfl (by kernel_rfl) (by kernel_rfl) (by kernel_rfl) (fun _ h => Mm.pick h [0] (by decide)) (y_pick (b := true) rfl rfl rfl) ?_
    refine hh_y 12 rfl rfl rfl rfl (by kernel_rfl) (by kernel_rfl) (by kernel_rfl) (fun _ h => Mm.pick h [0] (by decide)) (y_move rfl rfl) ?_
    refine hh_yg 13 12 23 true rfl rfl rfl rfl rfl rfl (by kernel_rfl) (by kernel_rfl) (by kernel_rfl) (fun _ h => Mm.pick h [0] (by decide)) (y_ldw 0 rfl T29 rfl rfl) ?_
    refine hh_yg 14 12 23 true rfl rfl rfl rfl rfl rfl (by kernel_rfl) (by kernel_rfl) (by kernel_rfl) (fun _ h => Mm.pick h [0] (by decide)) (y_move rfl rfl) ?_
    refine hh_yg 17 12 23 true rfl rfl rfl rfl rfl rfl (by kernel_rfl) (by kernel_rfl) (by kernel_rfl) (fun _ h => Mm.pick h [0] (by decide)) (y_ldw 0 rfl T29 rfl rfl) ?_
    refine hh_yg 18 12 23 true rfl rfl rfl rfl rfl rfl (by kernel_rfl) (by kernel_rfl) (by kernel_rfl) (fun _ h => Mm.pick h [0] (by decide)) (y_move rfl rfl) ?_
    refine hh_ig 15 12 23 true rfl rfl rfl rfl rfl rfl (by kernel_rfl) (e_call0 rfl F25 rfl (fun w hw => sha_Block_ct _ _ _ w ((rdF hv) w hw) (hkl.below (Mm.out hw).low)) rfl) (fun _ _ h => Mm.pick h [0] (by decide)) ?_; intro _
    refine hh_ig 16 12 23 true rfl rfl rfl rfl rfl rfl (by kernel_rfl) (e_call0 rfl F27 rfl (fun w hw => r07_Table_ct w) rfl) (fun _ _ h => Mm.pick h [0] (by decide)) ?_; intro _
    refine hh_ig 19 12 23 true rfl rfl rfl rfl rfl rfl (by kernel_rfl) (e_call0 rfl F26 rfl (fun w hw => r07_With_ct _ _ _ w ((rdF hv) w hw)) rfl) (fun _ _ h => Mm.pick h [0] (by decide)) ?_; intro _
    refine hh_yg 20 12 23 true rfl rfl rfl rfl rfl rfl (by kernel_rfl) (by kernel_rfl) (by kernel_rfl) (fun _ h => Mm.pick h [0] (by decide)) (y_as (y_eqlarr Q29 rfl rfl rfl) (congrArg Value.bool (eqn_true (fun _ _ => rfl)))) ?_
    refine hh_y 21 rfl rfl rfl rfl (by kernel_rfl) (by kernel_rfl) (by kernel_rfl) (fun _ h => Mm.pick h [0] (by decide)) (y_pick (b := true) rfl rfl rfl) ?_
    refine hh_y 22 rfl rfl rfl rfl (by kernel_rfl) (by kernel_rfl) (by kernel_rfl) (fun _ h => Mm.pick h [0] (by decide)) (y_move rfl rfl) ?_
    refine hh_ig 23 22 33 true rfl rfl rfl rfl rfl rfl (by kernel_rfl) (e_call0 rfl F20 rfl (fun w hw => law07_alive_ct w (hkl.below (Mm.out hw).low)) rfl) (fun _ _ h => Mm.pick h [0] (by decide)) ?_; intro _
    refine hh_y 24 rfl rfl rfl rfl (by kernel_rfl) (by kernel_rfl) (by kernel_rfl) (fun _ h => Mm.pick h [0] (by decide)) (y_pick (b := true) rfl rfl rfl) ?_
    refine hh_y 25 rfl rfl rfl rfl (by kernel_rfl) (by kernel_rfl) (by kernel_rfl) (fun _ h => Mm.pick h [0] (by decide)) (y_assign rfl rfl) ?_
    refine hh_done (by kernel_rfl) ?_
    refine hq_then ?_
    refine hc_ret ?_
    exact hq_ret1 (()) rfl (rv_tmp rfl) rfl (fun _ h => Mm.pick h [] (by simp))

theorem shaSums_ct (l : List UInt8) (v : Value)  (w : World) (hv : Rd w v (ls vb l)) (hml : l.length ≤ 9223372036854775807) (hkl : KL w) : Ct0 Tryd.prog 5 #[v] w (.bool true) := by
  refine ct0_of Tryd.func5 rfl Tryd.ntmps5 rfl ?_
  refine hc_seq ?_
  refine hc_region ?_
  refine hl_y rfl rfl rfl (y_assign rfl rfl) ?_
  refine hl_nil ?_
  refine hq_then ?_
  refine hc_seq ?_
  refine hc_seq ?_
  refine hc_region ?_
  refine hl_y rfl rfl rfl (y_move rfl rfl) ?_
  refine hl_y rfl rfl rfl (y_lenE (l.length) rfl rfl S22 rfl (rdF hv) (by first | rfl | (simp only [ls_len, ns_len, List.length_append, List.length_take, List.length_drop, List.length_replicate, List.length_cons, List.length_nil, putL_len, shaL_len]; done) | (simp only [ls_len, ns_len, List.length_append, List.length_take, List.length_drop, List.length_replicate, List.length_cons, List.length_nil, putL_len, shaL_len]; omega))) ?_
  refine hl_y rfl rfl rfl (y_gtrn (q := 600) rfl rfl rfl ) ?_
  refine hl_nil ?_
  refine hq_then ?_
  refine hc_if rfl (fun c0 => ?_) (fun c0 => ?_)
  · replace c0 := of_decide_eq_true c0
    refine hc_seq ?_
    refine hc_region ?_
    refine hl_i rfl rfl rfl (e_call0 rfl F20 rfl (fun w hw => law07_alive_ct w (hkl.below (Mm.out hw).low)) rfl) ?_; intro _
    refine hl_y rfl rfl rfl (y_assign rfl rfl) ?_
    refine hl_nil ?_
    refine hq_then ?_
    refine hc_ret ?_
    exact hq_then_ret (hq_ret1 (()) rfl (rv_tmp rfl) rfl (fun _ h => Mm.pick h [] (by simp)))
  · replace c0 := of_decide_eq_false c0
    refine hc_skip ?_
    refine hq_then ?_
    refine hc_seq ?_
    refine hc_region ?_
    refine hl_y rfl rfl rfl (y_move rfl rfl) ?_
    refine hl_i rfl rfl rfl (e_call rfl F28 rfl (fun w hw => sha_Sum_ct l _ w ((rdF hv) w hw) (by first | omega | (simp only [List.length_append, List.length_take, List.length_drop, List.length_replicate, List.length_cons, List.length_nil, putL_len, shaL_len]; omega)) (hkl.below (Mm.out hw).low)) rfl) ?_; intro y8
    refine hl_y rfl rfl rfl (y_move rfl rfl) ?_
    refine hl_i rfl rfl rfl (e_call rfl F29 rfl (fun w hw => r07_Sum_ct l _ w ((rdF hv) w hw) (by first | omega | (simp only [List.length_append, List.length_take, List.length_drop, List.length_replicate, List.length_cons, List.length_nil, putL_len, shaL_len]; omega))) rfl) ?_; intro y10
    refine hl_i rfl rfl rfl (e_call0 rfl F19 rfl (fun w hw => r01_Same_t _ _ _ _ w ((rdR 1 rfl) w hw) ((rdR 0 rfl) w hw) (by rw [shaL_len]; decide) rfl) rfl) ?_; intro _
    refine hl_y rfl rfl rfl (y_move rfl rfl) ?_
    refine hl_ig 5 12 true rfl rfl rfl rfl rfl (e_call0 rfl F20 rfl (fun w hw => law07_alive_ct w (hkl.below (Mm.out hw).low)) rfl) ?_; intro _
    refine hl_y rfl rfl rfl (y_pick (b := true) rfl rfl rfl) ?_
    refine hl_y rfl rfl rfl (y_assign rfl rfl) ?_
    refine hl_nil ?_
    refine hq_then ?_
    refine hc_ret ?_
    exact hq_ret1 (()) rfl (rv_tmp rfl) rfl (fun _ h => Mm.pick h [] (by simp))

theorem shaWhole_ct (l : List UInt8) (v : Value)  (w : World) (hv : Rd w v (ls vb l)) (hml : l.length ≤ 9223372036854775807) (hkl : KL w) : Ct0 Tryd.prog 7 #[v] w (.bool true) := by
  have hal := allL_le l
  have hpg := padG_le l.length
  have haw := allL_whole l
  refine ct0_of Tryd.func7 rfl Tryd.ntmps7 rfl ?_
  refine hc_seq ?_
  refine hc_region ?_
  refine hl_y rfl rfl rfl (y_assign rfl rfl) ?_
  refine hl_nil ?_
  refine hq_then ?_
  refine hc_seq ?_
  refine hc_seq ?_
  refine hc_region ?_
  refine hl_y rfl rfl rfl (y_move rfl rfl) ?_
  refine hl_y rfl rfl rfl (y_lenE (l.length) rfl rfl S22 rfl (rdF hv) (by first | rfl | (simp only [ls_len, ns_len, List.length_append, List.length_take, List.length_drop, List.length_replicate, List.length_cons, List.length_nil, putL_len, shaL_len]; done) | (simp only [ls_len, ns_len, List.length_append, List.length_take, List.length_drop, List.length_replicate, List.length_cons, List.length_nil, putL_len, shaL_len]; omega))) ?_
  refine hl_y rfl rfl rfl (y_gtrn (q := 300) rfl rfl rfl ) ?_
  refine hl_nil ?_
  refine hq_then ?_
  refine hc_if rfl (fun c0 => ?_) (fun c0 => ?_)
  · replace c0 := of_decide_eq_true c0
    refine hc_seq ?_
    refine hc_region ?_
    refine hl_i rfl rfl rfl (e_call0 rfl F20 rfl (fun w hw => law07_alive_ct w (hkl.below (Mm.out hw).low)) rfl) ?_; intro _
    refine hl_y rfl rfl rfl (y_assign rfl rfl) ?_
    refine hl_nil ?_
    refine hq_then ?_
    refine hc_ret ?_
    exact hq_then_ret (hq_ret1 (()) rfl (rv_tmp rfl) rfl (fun _ h => Mm.pick h [] (by simp)))
  · replace c0 := of_decide_eq_false c0
    refine hc_skip ?_
    refine hq_then ?_
    refine hc_seq ?_
    refine hc_region ?_
    refine hl_y rfl rfl rfl (y_move rfl rfl) ?_
    refine hl_y rfl rfl rfl (y_move rfl rfl) ?_
    refine hl_y rfl rfl rfl (y_lenE (l.length) rfl rfl S22 rfl (rdF hv) (by first | rfl | (simp only [ls_len, ns_len, List.length_append, List.length_take, List.length_drop, List.length_replicate, List.length_cons, List.length_nil, putL_len, shaL_len]; done) | (simp only [ls_len, ns_len, List.length_append, List.length_take, List.length_drop, List.length_replicate, List.length_cons, List.length_nil, putL_len, shaL_len]; omega))) ?_
    refine hl_i rfl rfl rfl (e_call rfl F21 rfl (fun w hw => sha_Pad_ct l.length (by omega) w) rfl) ?_; intro y15
    refine hl_i rfl rfl rfl (e_call rfl F32 rfl (fun w hw => r01_Join_ct l (padG l.length) _ _ w ((rdF hv) w hw) ((rdR 0 rfl) w hw) (by first | omega | (simp only [List.length_append, List.length_take, List.length_drop, List.length_replicate, List.length_cons, List.length_nil, putL_len, shaL_len]; omega))) rfl) ?_; intro y16
    refine HL.mem (fun _ h => h.setr 0 rfl (show _ = ls vb (allL l) by rw [allL, ← padG_of (by omega)])) ?_
    refine hl_y rfl rfl rfl (y_assign rfl rfl) ?_
    refine hl_nil ?_
    refine hq_then ?_
    refine hc_seq ?_
    refine hc_seq ?_
    refine hc_region ?_
    refine hl_y rfl rfl rfl (y_move rfl rfl) ?_
    refine hl_y rfl rfl rfl (y_lenE ((allL l).length) rfl rfl S22 rfl (rdR 0 rfl) (by first | rfl | (simp only [ls_len, ns_len, List.length_append, List.length_take, List.length_drop, List.length_replicate, List.length_cons, List.length_nil, putL_len, shaL_len]; done) | (simp only [ls_len, ns_len, List.length_append, List.length_take, List.length_drop, List.length_replicate, List.length_cons, List.length_nil, putL_len, shaL_len]; omega))) ?_
    refine hl_y rfl rfl rfl (y_remn (q := 64) rfl rfl rfl (by first | omega | (simp only [ls_len, ns_len, List.length_append, List.length_take, List.length_drop, List.length_replicate, List.length_cons, List.length_nil, putL_len, shaL_len]; omega) | (simp only [ls_len, ns_len, List.length_append, List.length_take, List.length_drop, List.length_replicate, List.length_cons, List.length_nil, putL_len, shaL_len] at *; omega))) ?_
    refine hl_y rfl rfl rfl (y_as (y_neqn (q := 0) rfl rfl rfl ) (congrArg Value.bool (decide_eq_false (fun h => h haw)))) ?_
    refine hl_y rfl rfl rfl (y_move rfl rfl) ?_
    refine hl_yg 4 21 false rfl rfl rfl rfl rfl (y_move rfl rfl) ?_
    refine hl_yg 4 21 false rfl rfl rfl rfl rfl (y_lenE ((allL l).length) rfl rfl S22 rfl (rdR 0 rfl) (by first | rfl | (simp only [ls_len, ns_len, List.length_append, List.length_take, List.length_drop, List.length_replicate, List.length_cons, List.length_nil, putL_len, shaL_len]; done) | (simp only [ls_len, ns_len, List.length_append, List.length_take, List.length_drop, List.length_replicate, List.length_cons, List.length_nil, putL_len, shaL_len]; omega))) ?_
    refine hl_yg 4 21 false rfl rfl rfl rfl rfl (y_move rfl rfl) ?_
    refine hl_yg 4 21 false rfl rfl rfl rfl rfl (y_lenE (l.length) rfl rfl S22 rfl (rdF hv) (by first | rfl | (simp only [ls_len, ns_len, List.length_append, List.length_take, List.length_drop, List.length_replicate, List.length_cons, List.length_nil, putL_len, shaL_len]; done) | (simp only [ls_len, ns_len, List.length_append, List.length_take, List.length_drop, List.length_replicate, List.length_cons, List.length_nil, putL_len, shaL_len]; omega))) ?_
    refine hl_yg 4 21 false rfl rfl rfl rfl rfl (y_addn (q := 9) rfl rfl rfl (by first | omega | (simp only [ls_len, ns_len, List.length_append, List.length_take, List.length_drop, List.length_replicate, List.length_cons, List.length_nil, putL_len, shaL_len]; omega) | (simp only [ls_len, ns_len, List.length_append, List.length_take, List.length_drop, List.length_replicate, List.length_cons, List.length_nil, putL_len, shaL_len] at *; omega))) ?_
    refine hl_yg 4 21 false rfl rfl rfl rfl rfl (y_as (y_lssn rfl rfl rfl ) (congrArg Value.bool (decide_eq_false (by omega)))) ?_
    refine hl_y rfl rfl rfl (y_pick (b := false) rfl rfl rfl) ?_
    refine hl_y rfl rfl rfl (y_move rfl rfl) ?_
    refine hl_yg 12 29 false rfl rfl rfl rfl rfl (y_move rfl rfl) ?_
    refine hl_yg 12 29 false rfl rfl rfl rfl rfl (y_lenE ((allL l).length) rfl rfl S22 rfl (rdR 0 rfl) (by first | rfl | (simp only [ls_len, ns_len, List.length_append, List.length_take, List.length_drop, List.length_replicate, List.length_cons, List.length_nil, putL_len, shaL_len]; done) | (simp only [ls_len, ns_len, List.length_append, List.length_take, List.length_drop, List.length_replicate, List.length_cons, List.length_nil, putL_len, shaL_len]; omega))) ?_
    refine hl_yg 12 29 false rfl rfl rfl rfl rfl (y_move rfl rfl) ?_
    refine hl_yg 12 29 false rfl rfl rfl rfl rfl (y_lenE (l.length) rfl rfl S22 rfl (rdF hv) (by first | rfl | (simp only [ls_len, ns_len, List.length_append, List.length_take, List.length_drop, List.length_replicate, List.length_cons, List.length_nil, putL_len, shaL_len]; done) | (simp only [ls_len, ns_len, List.length_append, List.length_take, List.length_drop, List.length_replicate, List.length_cons, List.length_nil, putL_len, shaL_len]; omega))) ?_
    refine hl_yg 12 29 false rfl rfl rfl rfl rfl (y_addn (q := 72) rfl rfl rfl (by first | omega | (simp only [ls_len, ns_len, List.length_append, List.length_take, List.length_drop, List.length_replicate, List.length_cons, List.length_nil, putL_len, shaL_len]; omega) | (simp only [ls_len, ns_len, List.length_append, List.length_take, List.length_drop, List.length_replicate, List.length_cons, List.length_nil, putL_len, shaL_len] at *; omega))) ?_
    refine hl_yg 12 29 false rfl rfl rfl rfl rfl (y_as (y_gtrn rfl rfl rfl ) (congrArg Value.bool (decide_eq_false (by omega)))) ?_
    refine hl_y rfl rfl rfl (y_pick (b := false) rfl rfl rfl) ?_
    refine hl_nil ?_
    refine hq_then ?_
    refine hc_ifF rfl ?_
    refine hc_skip ?_
    refine hq_then ?_
    refine hc_seq ?_
    refine hc_region ?_
    refine hl_i rfl rfl rfl (e_call0 rfl F33 rfl (fun w hw => sha_First_ct w) rfl) ?_; intro _
    refine hl_i rfl rfl rfl (e_alloc rfl Z29) ?_; intro g4
    refine hl_i0 rfl rfl (e_stw 0 rfl T29.2 rfl rfl rfl (ns_onew _ _)) ?_; intro _
    refine hl_nil ?_
    refine hq_then ?_
    refine hc_seq ?_
    refine hc_seq ?_
    refine hc_region ?_
    refine hl_y rfl rfl rfl (y_assign (v := vi 0) rfl rfl) ?_
    refine hl_nil ?_
    refine hq_then ?_
    refine hc_block ?_
    refine hc_loop (fun k => k ≤ (allL l).length / 64) (fun k => (allL l).length / 64 - k) (fun k => [(0, v), (3, y16), (4, .pointer (some ⟨g4, 0, none⟩)), (5, vi (k * 64))]) (fun k => Mm w [.blk g4 29 (ns vw 8 (sumS (allL l) k)), .row 5 y16 (ls vb (allL l))]) (0) (by omega) ⟨rfl, rfl, rfl, lk_int rfl (by simp), trivial⟩ (fun _ h => Mm.pick h [0, 1] (by decide)) ?_
    intro k hk
    refine hc_seq ?_
    refine hc_seq ?_
    refine hc_region ?_
    refine hl_y rfl rfl rfl (y_move rfl rfl) ?_
    refine hl_y rfl rfl rfl (y_addn (q := 64) rfl rfl rfl (by first | omega | (simp only [ls_len, ns_len, List.length_append, List.length_take, List.length_drop, List.length_replicate, List.length_cons, List.length_nil, putL_len, shaL_len]; omega) | (simp only [ls_len, ns_len, List.length_append, List.length_take, List.length_drop, List.length_replicate, List.length_cons, List.length_nil, putL_len, shaL_len] at *; omega))) ?_
    refine hl_y rfl rfl rfl (y_move rfl rfl) ?_
    refine hl_y rfl rfl rfl (y_lenE ((allL l).length) rfl rfl S22 rfl (rdR 1 rfl) (by first | rfl | (simp only [ls_len, ns_len, List.length_append, List.length_take, List.length_drop, List.length_replicate, List.length_cons, List.length_nil, putL_len, shaL_len]; done) | (simp only [ls_len, ns_len, List.length_append, List.length_take, List.length_drop, List.length_replicate, List.length_cons, List.length_nil, putL_len, shaL_len]; omega))) ?_
    refine hl_y rfl rfl rfl (y_leqn rfl rfl rfl ) ?_
    refine hl_nil ?_
    refine hq_then ?_
    refine hc_if rfl (fun c2 => ?_) (fun c2 => ?_)
    · replace c2 := of_decide_eq_true c2
      refine hc_skip ?_
      refine hq_then ?_
      refine hc_seq ?_
      refine hc_block ?_
      refine hc_drawP [1] follows_mixed ?_
      refine hh_y 1 rfl rfl rfl rfl (by kernel_rfl) (by kernel_rfl) (by kernel_rfl) (fun _ h => Mm.pick h [1] (by decide)) (y_move rfl rfl) ?_
      refine hh_y 2 rfl rfl rfl rfl (by kernel_rfl) (by kernel_rfl) (by kernel_rfl) (fun _ h => Mm.pick h [1] (by decide)) (y_move rfl rfl) ?_
      refine hh_y 3 rfl rfl rfl rfl (by kernel_rfl) (by kernel_rfl) (by kernel_rfl) (fun _ h => Mm.pick h [1] (by decide)) (y_move rfl rfl) ?_
      refine hh_y 4 rfl rfl rfl rfl (by kernel_rfl) (by kernel_rfl) (by kernel_rfl) (fun _ h => Mm.pick h [1] (by decide)) (y_addn (q := 64) rfl rfl rfl (by first | omega | (simp only [ls_len, ns_len, List.length_append, List.length_take, List.length_drop, List.length_replicate, List.length_cons, List.length_nil, putL_len, shaL_len]; omega) | (simp only [ls_len, ns_len, List.length_append, List.length_take, List.length_drop, List.length_replicate, List.length_cons, List.length_nil, putL_len, shaL_len] at *; omega))) ?_
      refine hh_y 5 rfl rfl rfl rfl (by kernel_rfl) (by kernel_rfl) (by kernel_rfl) (fun _ h => Mm.pick h [1] (by decide)) (y_slc2 rfl S22 rfl (rdR 0 rfl) rfl rfl (by first | omega | (simp only [ls_len, ns_len, List.length_append, List.length_take, List.length_drop, List.length_replicate, List.length_cons, List.length_nil, putL_len, shaL_len]; omega) | (simp only [ls_len, ns_len, List.length_append, List.length_take, List.length_drop, List.length_replicate, List.length_cons, List.length_nil, putL_len, shaL_len] at *; omega)) (by first | omega | (simp only [ls_len, ns_len, List.length_append, List.length_take, List.length_drop, List.length_replicate, List.length_cons, List.length_nil, putL_len, shaL_len]; omega) | (simp only [ls_len, ns_len, List.length_append, List.length_take, List.length_drop, List.length_replicate, List.length_cons, List.length_nil, putL_len, shaL_len] at *; omega))) ?_
      refine hh_i 0 rfl rfl rfl rfl (by kernel_rfl) (ef_y (y_ldw 0 rfl T29 rfl rfl)) (fun _ _ h => Mm.pick h [1] (by decide)) ?_; intro _
      refine hh_i 6 rfl rfl rfl rfl (by kernel_rfl) (e_call0 rfl F25 rfl (fun w hw => sha_Block_ct _ _ _ w (((rdQ2 (rdR 1 rfl) (lo := (k * 64)) (hi := ((k * 64) + 64)) (n := 64) (by first | omega | (simp only [ls_len, ns_len, List.length_append, List.length_take, List.length_drop, List.length_replicate, List.length_cons, List.length_nil, putL_len, shaL_len]; omega) | (simp only [ls_len, ns_len, List.length_append, List.length_take, List.length_drop, List.length_replicate, List.length_cons, List.length_nil, putL_len, shaL_len] at *; omega)) (by first | omega | (simp only [ls_len, ns_len, List.length_append, List.length_take, List.length_drop, List.length_replicate, List.length_cons, List.length_nil, putL_len, shaL_len]; omega) | (simp only [ls_len, ns_len, List.length_append, List.length_take, List.length_drop, List.length_replicate, List.length_cons, List.length_nil, putL_len, shaL_len] at *; omega)))) w hw) (hkl.below (Mm.out hw).low)) rfl) (fun _ _ h => Mm.pick h [1] (by decide)) ?_; intro _
      refine hh_i0 7 rfl rfl rfl (by kernel_rfl) (e_stw 0 rfl T29.2 rfl rfl rfl (ns_onew _ _)) (fun _ _ h => Mm.pick_set h [1] (by decide) (by decide)) ?_; intro _
      refine hh_done (by kernel_rfl) ?_
      refine hq_in (hq_then ?_)
      refine hc_region ?_
      refine hl_y rfl rfl rfl (y_move rfl rfl) ?_
      refine hl_y rfl rfl rfl (y_addn (q := 64) rfl rfl rfl (by first | omega | (simp only [ls_len, ns_len, List.length_append, List.length_take, List.length_drop, List.length_replicate, List.length_cons, List.length_nil, putL_len, shaL_len]; omega) | (simp only [ls_len, ns_len, List.length_append, List.length_take, List.length_drop, List.length_replicate, List.length_cons, List.length_nil, putL_len, shaL_len] at *; omega))) ?_
      refine hl_y rfl rfl rfl (y_assign rfl rfl) ?_
      refine hl_nil ?_
      exact hq_round (k + 1) (by omega) (by omega) ⟨rfl, rfl, rfl, lk_int rfl (by rw [Nat.add_one_mul]), trivial⟩ (fun _ h => h.set 0 rfl (by rw [sumS_next, blockF, if_pos (by rw [List.length_take, List.length_drop]; omega)]; rfl))
    · replace c2 := of_decide_eq_false c2
      refine hc_exit ?_
      refine hq_then_exit (hq_loop_exit (hq_in_same (hq_then ?_)))
      refine hc_seq ?_
      refine hc_region ?_
      refine hl_y rfl rfl rfl (y_assign rfl rfl) ?_
      refine hl_nil ?_
      refine hq_then ?_
      refine hc_seq ?_
      refine hc_seq ?_
      refine hc_region ?_
      refine hl_y rfl rfl rfl (y_assign (v := vi 0) rfl rfl) ?_
      refine hl_nil ?_
      refine hq_then ?_
      refine hc_block ?_
      refine hc_loop2 (fun k u => k ≤ 8) (fun k u => 8 - k) (fun k u => [(0, v), (4, .pointer (some ⟨g4, 0, none⟩)), (6, u), (7, vi k)]) (fun k u => Mm w [.row 5 u (ls vb (outL (sumS (allL l) ((allL l).length / 64)) k)), .blk g4 29 (ns vw 8 (sumS (allL l) ((allL l).length / 64)))]) (0) (.slice none 0 0) (by omega) ⟨rfl, rfl, rfl, lk_int rfl (by omega), trivial⟩ (fun _ h => (mm_nilb 5 _ (Mm.pick h [0] (by decide))).set 1 rfl (by rw [show k = (allL l).length / 64 from by omega])) ?_
      intro k u hk
      refine hc_seq ?_
      refine hc_seq ?_
      refine hc_region ?_
      refine hl_y rfl rfl rfl (y_move rfl rfl) ?_
      refine hl_y rfl rfl rfl (y_lssn (q := 8) rfl rfl rfl ) ?_
      refine hl_nil ?_
      refine hq_then ?_
      refine hc_if rfl (fun c3 => ?_) (fun c3 => ?_)
      · replace c3 := of_decide_eq_true c3
        refine hc_skip ?_
        refine hq_then ?_
        refine hc_seq ?_
        refine hc_block ?_
        refine hc_region ?_
        refine hl_y rfl rfl rfl (y_move rfl rfl) ?_
        refine hl_y rfl rfl rfl (y_move rfl rfl) ?_
        refine hl_y rfl rfl rfl (y_ixa1 rfl T29 O28 rfl rfl (by first | omega | (simp only [ls_len, ns_len, List.length_append, List.length_take, List.length_drop, List.length_replicate, List.length_cons, List.length_nil, putL_len, shaL_len]; omega) | (simp only [ls_len, ns_len, List.length_append, List.length_take, List.length_drop, List.length_replicate, List.length_cons, List.length_nil, putL_len, shaL_len] at *; omega))) ?_
        refine hl_y rfl rfl rfl (y_ldn 1 rfl O28 rfl rfl (by first | omega | (simp only [ls_len, ns_len, List.length_append, List.length_take, List.length_drop, List.length_replicate, List.length_cons, List.length_nil, putL_len, shaL_len]; omega) | (simp only [ls_len, ns_len, List.length_append, List.length_take, List.length_drop, List.length_replicate, List.length_cons, List.length_nil, putL_len, shaL_len] at *; omega))) ?_
        refine hl_y rfl rfl rfl (y_conv rfl U28 U45 rfl (conv_wq _)) ?_
        refine hl_i rfl rfl rfl (e_call rfl F34 rfl (fun w hw => r01_Put_ct _ 4 (by omega) (by omega) w) rfl) ?_; intro y61
        refine hl_i rfl rfl rfl (e_appb 1 rfl A22_5 rfl rfl rfl (rdR 0 rfl) rfl (by rw [outL_len, putL_len]; omega)) ?_; intro y62
        refine hl_y rfl rfl rfl (y_assign rfl rfl) ?_
        refine hl_nil ?_
        refine hq_in (hq_then ?_)
        refine hc_region ?_
        refine hl_y rfl rfl rfl (y_move rfl rfl) ?_
        refine hl_y rfl rfl rfl (y_addn (q := 1) rfl rfl rfl (by first | omega | (simp only [ls_len, ns_len, List.length_append, List.length_take, List.length_drop, List.length_replicate, List.length_cons, List.length_nil, putL_len, shaL_len]; omega) | (simp only [ls_len, ns_len, List.length_append, List.length_take, List.length_drop, List.length_replicate, List.length_cons, List.length_nil, putL_len, shaL_len] at *; omega))) ?_
        refine hl_y rfl rfl rfl (y_assign rfl rfl) ?_
        refine hl_nil ?_
        exact hq_round2 (k + 1) (y62) (by omega) (by omega) ⟨rfl, rfl, rfl, lk_int rfl (by omega), trivial⟩ (fun _ h => (Mm.pick h [1, 2] (by decide)).setr 0 rfl (by rw [outL_next]))
      · replace c3 := of_decide_eq_false c3
        refine hc_exit ?_
        refine hq_then_exit (hq_loop_exit2 (hq_in_same (hq_then ?_)))
        refine hc_seq ?_
        obtain rfl : k = 8 := by omega
        refine hc_region ?_
        refine hl_y rfl rfl rfl (y_move rfl rfl) ?_
        refine hl_i rfl rfl rfl (e_call rfl F28 rfl (fun w hw => sha_Sum_ct l _ w ((rdF hv) w hw) (by first | omega | (simp only [List.length_append, List.length_take, List.length_drop, List.length_replicate, List.length_cons, List.length_nil, putL_len, shaL_len]; omega)) (hkl.below (Mm.out hw).low)) rfl) ?_; intro y64
        refine hl_y rfl rfl rfl (y_move rfl rfl) ?_
        refine hl_i rfl rfl rfl (e_call0 rfl F19 rfl (fun w hw => r01_Same_t _ _ _ _ w ((rdR 0 rfl) w hw) ((rdR 1 rfl) w hw) (by rw [shaL_len]; decide) rfl) rfl) ?_; intro _
        refine hl_y rfl rfl rfl (y_move rfl rfl) ?_
        refine hl_yg 4 67 true rfl rfl rfl rfl rfl (y_move rfl rfl) ?_
        refine hl_yg 4 67 true rfl rfl rfl rfl rfl (y_lenE (32) rfl rfl S22 rfl (rdR 1 rfl) (by rw [ls_len, outL_len])) ?_
        refine hl_yg 4 67 true rfl rfl rfl rfl rfl (y_as (y_eqln (q := 32) rfl rfl rfl ) (congrArg Value.bool (decide_eq_true (by omega)))) ?_
        refine hl_y rfl rfl rfl (y_pick (b := true) rfl rfl rfl) ?_
        refine hl_y rfl rfl rfl (y_move rfl rfl) ?_
        refine hl_ig 9 72 true rfl rfl rfl rfl rfl (e_call0 rfl F20 rfl (fun w hw => law07_alive_ct w (hkl.below (Mm.out hw).low)) rfl) ?_; intro _
        refine hl_y rfl rfl rfl (y_pick (b := true) rfl rfl rfl) ?_
        refine hl_y rfl rfl rfl (y_assign rfl rfl) ?_
        refine hl_nil ?_
        refine hq_then ?_
        refine hc_ret ?_
        exact hq_ret1 (()) rfl (rv_tmp rfl) rfl (fun _ h => Mm.pick h [] (by simp))

end Go.Proofs.YtcdidapkpfnphaaDoor
