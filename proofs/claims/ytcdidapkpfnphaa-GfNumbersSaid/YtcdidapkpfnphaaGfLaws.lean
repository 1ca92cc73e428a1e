/- The laws of the field: each call gives back true. -/
import Derived.Test.YtcdidapkpfnphaaGf
import Derived.Test.YtcdidapkpfnphaaPureGf
namespace Go.Proofs.Ytcdidapkpfnphaa
open Go.RowKit
theorem law10_alive_ct  (w : World) : Ct0 Try.prog 24 #[] w (.bool true) := by
  refine ct0_of Try.func24 rfl Try.ntmps24 rfl ?_
  refine hc_seq ?_
  refine hc_region ?_
  refine hl_y rfl rfl rfl (y_assign rfl rfl) ?_
  refine hl_nil ?_
  refine hq_then ?_
  refine hc_seq ?_
  refine hc_region ?_
  refine hl_i rfl rfl rfl (e_call0 rfl F20 rfl (fun w hw => gf_Mul_ct 87 131 w) rfl) ?_; intro _
  refine hl_y rfl rfl rfl (y_as (y_eqlb (q := 193) rfl rfl rfl) (congrArg Value.bool (decide_eq_true ((by decide +kernel))))) ?_
  refine hl_y rfl rfl rfl (y_move rfl rfl) ?_
  refine hl_ig 2 3 true rfl rfl rfl rfl rfl (e_call0 rfl F27 rfl (fun w hw => gf_Box_ct 0 w) rfl) ?_; intro _
  refine hl_yg 2 3 true rfl rfl rfl rfl rfl (y_as (y_eqlb (q := 99) rfl rfl rfl) (congrArg Value.bool (decide_eq_true ((by decide +kernel))))) ?_
  refine hl_y rfl rfl rfl (y_pick (b := true) rfl rfl rfl) ?_
  refine hl_y rfl rfl rfl (y_assign rfl rfl) ?_
  refine hl_nil ?_
  refine hq_then ?_
  refine hc_ret ?_
  exact hq_ret1 (()) rfl (rv_tmp rfl) rfl (fun _ h => Mm.pick h [] (by simp))

theorem gfNumbers_nat (a b : UInt8) (n : Nat) (hn : n ≤ 9223372036854775807) (w : World) : Ct0 Try.prog 4 #[vb a, vb b, vi n] w (.bool true) := by
  refine ct0_of Try.func4 rfl Try.ntmps4 rfl ?_
  refine hc_seq ?_
  refine hc_region ?_
  refine hl_y rfl rfl rfl (y_assign rfl rfl) ?_
  refine hl_nil ?_
  refine hq_then ?_
  refine hc_seq ?_
  refine hc_region ?_
  refine hl_y rfl rfl rfl (y_move rfl rfl) ?_
  refine hl_i rfl rfl rfl (e_call0 rfl F18 rfl (fun w hw => gf_Twice_ct _ w) rfl) ?_; intro _
  refine hl_y rfl rfl rfl (y_move rfl rfl) ?_
  refine hl_i rfl rfl rfl (e_call0 rfl F19 rfl (fun w hw => r10_Twice_ct _ w) rfl) ?_; intro _
  refine hl_y rfl rfl rfl (y_as (y_eqlb rfl rfl rfl) (congrArg Value.bool (decide_eq_true (twice_eq a)))) ?_
  refine hl_y rfl rfl rfl (y_move rfl rfl) ?_
  refine hl_yg 5 12 true rfl rfl rfl rfl rfl (y_move rfl rfl) ?_
  refine hl_yg 5 12 true rfl rfl rfl rfl rfl (y_move rfl rfl) ?_
  refine hl_ig 5 12 true rfl rfl rfl rfl rfl (e_call0 rfl F20 rfl (fun w hw => gf_Mul_ct _ _ w) rfl) ?_; intro _
  refine hl_yg 5 12 true rfl rfl rfl rfl rfl (y_move rfl rfl) ?_
  refine hl_yg 5 12 true rfl rfl rfl rfl rfl (y_move rfl rfl) ?_
  refine hl_ig 5 12 true rfl rfl rfl rfl rfl (e_call0 rfl F21 rfl (fun w hw => r10_Mul_ct _ _ w) rfl) ?_; intro _
  refine hl_yg 5 12 true rfl rfl rfl rfl rfl (y_as (y_eqlb rfl rfl rfl) (congrArg Value.bool (decide_eq_true (mulG_eq a b)))) ?_
  refine hl_y rfl rfl rfl (y_pick (b := true) rfl rfl rfl) ?_
  refine hl_y rfl rfl rfl (y_move rfl rfl) ?_
  refine hl_yg 14 21 true rfl rfl rfl rfl rfl (y_move rfl rfl) ?_
  refine hl_yg 14 21 true rfl rfl rfl rfl rfl (y_move rfl rfl) ?_
  refine hl_ig 14 21 true rfl rfl rfl rfl rfl (e_call0 rfl F22 rfl (fun w hw => gf_Power_ct _ n _ (by omega) rfl w) rfl) ?_; intro _
  refine hl_yg 14 21 true rfl rfl rfl rfl rfl (y_move rfl rfl) ?_
  refine hl_yg 14 21 true rfl rfl rfl rfl rfl (y_move rfl rfl) ?_
  refine hl_ig 14 21 true rfl rfl rfl rfl rfl (e_call0 rfl F23 rfl (fun w hw => r10_Power_ct _ n _ (by omega) rfl w) rfl) ?_; intro _
  refine hl_yg 14 21 true rfl rfl rfl rfl rfl (y_as (y_eqlb rfl rfl rfl) (congrArg Value.bool (decide_eq_true (powG_eq a (redN_le n))))) ?_
  refine hl_y rfl rfl rfl (y_pick (b := true) rfl rfl rfl) ?_
  refine hl_y rfl rfl rfl (y_move rfl rfl) ?_
  refine hl_ig 23 30 true rfl rfl rfl rfl rfl (e_call0 rfl F24 rfl (fun w hw => law10_alive_ct w) rfl) ?_; intro _
  refine hl_y rfl rfl rfl (y_pick (b := true) rfl rfl rfl) ?_
  refine hl_y rfl rfl rfl (y_assign rfl rfl) ?_
  refine hl_nil ?_
  refine hq_then ?_
  refine hc_ret ?_
  exact hq_ret1 (()) rfl (rv_tmp rfl) rfl (fun _ h => Mm.pick h [] (by simp))

theorem gfNumbers_neg (a b : UInt8) (n : Int) (hn : n < 1) (h0 : -9223372036854775808 ≤ n) (w : World) : Ct0 Try.prog 4 #[vb a, vb b, .int .i64 n] w (.bool true) := by
  refine ct0_of Try.func4 rfl Try.ntmps4 rfl ?_
  refine hc_seq ?_
  refine hc_region ?_
  refine hl_y rfl rfl rfl (y_assign rfl rfl) ?_
  refine hl_nil ?_
  refine hq_then ?_
  refine hc_seq ?_
  refine hc_region ?_
  refine hl_y rfl rfl rfl (y_move rfl rfl) ?_
  refine hl_i rfl rfl rfl (e_call0 rfl F18 rfl (fun w hw => gf_Twice_ct _ w) rfl) ?_; intro _
  refine hl_y rfl rfl rfl (y_move rfl rfl) ?_
  refine hl_i rfl rfl rfl (e_call0 rfl F19 rfl (fun w hw => r10_Twice_ct _ w) rfl) ?_; intro _
  refine hl_y rfl rfl rfl (y_as (y_eqlb rfl rfl rfl) (congrArg Value.bool (decide_eq_true (twice_eq a)))) ?_
  refine hl_y rfl rfl rfl (y_move rfl rfl) ?_
  refine hl_yg 5 12 true rfl rfl rfl rfl rfl (y_move rfl rfl) ?_
  refine hl_yg 5 12 true rfl rfl rfl rfl rfl (y_move rfl rfl) ?_
  refine hl_ig 5 12 true rfl rfl rfl rfl rfl (e_call0 rfl F20 rfl (fun w hw => gf_Mul_ct _ _ w) rfl) ?_; intro _
  refine hl_yg 5 12 true rfl rfl rfl rfl rfl (y_move rfl rfl) ?_
  refine hl_yg 5 12 true rfl rfl rfl rfl rfl (y_move rfl rfl) ?_
  refine hl_ig 5 12 true rfl rfl rfl rfl rfl (e_call0 rfl F21 rfl (fun w hw => r10_Mul_ct _ _ w) rfl) ?_; intro _
  refine hl_yg 5 12 true rfl rfl rfl rfl rfl (y_as (y_eqlb rfl rfl rfl) (congrArg Value.bool (decide_eq_true (mulG_eq a b)))) ?_
  refine hl_y rfl rfl rfl (y_pick (b := true) rfl rfl rfl) ?_
  refine hl_y rfl rfl rfl (y_move rfl rfl) ?_
  refine hl_yg 14 21 true rfl rfl rfl rfl rfl (y_move rfl rfl) ?_
  refine hl_yg 14 21 true rfl rfl rfl rfl rfl (y_move rfl rfl) ?_
  refine hl_ig 14 21 true rfl rfl rfl rfl rfl (e_call0 rfl F22 rfl (fun w hw => gf_Power_neg_ct _ _ hn h0 w) rfl) ?_; intro _
  refine hl_yg 14 21 true rfl rfl rfl rfl rfl (y_move rfl rfl) ?_
  refine hl_yg 14 21 true rfl rfl rfl rfl rfl (y_move rfl rfl) ?_
  refine hl_ig 14 21 true rfl rfl rfl rfl rfl (e_call0 rfl F23 rfl (fun w hw => r10_Power_neg_ct _ _ hn h0 w) rfl) ?_; intro _
  refine hl_yg 14 21 true rfl rfl rfl rfl rfl (y_as (y_eqlb rfl rfl rfl) (congrArg Value.bool (decide_eq_true (rfl)))) ?_
  refine hl_y rfl rfl rfl (y_pick (b := true) rfl rfl rfl) ?_
  refine hl_y rfl rfl rfl (y_move rfl rfl) ?_
  refine hl_ig 23 30 true rfl rfl rfl rfl rfl (e_call0 rfl F24 rfl (fun w hw => law10_alive_ct w) rfl) ?_; intro _
  refine hl_y rfl rfl rfl (y_pick (b := true) rfl rfl rfl) ?_
  refine hl_y rfl rfl rfl (y_assign rfl rfl) ?_
  refine hl_nil ?_
  refine hq_then ?_
  refine hc_ret ?_
  exact hq_ret1 (()) rfl (rv_tmp rfl) rfl (fun _ h => Mm.pick h [] (by simp))

theorem gfBoxes_ct (a : UInt8) (f : Nat → UInt8) (w : World) : Ct0 Try.prog 5 #[vb a, .agg (ns vb 4 f).toArray] w (.bool true) := by
  refine ct0_of Try.func5 rfl Try.ntmps5 rfl ?_
  refine hc_seq ?_
  refine hc_region ?_
  refine hl_i rfl rfl rfl (e_boxa rfl rfl) ?_; intro g3
  refine hl_y rfl rfl rfl (y_assign rfl rfl) ?_
  refine hl_nil ?_
  refine hq_then ?_
  refine hc_seq ?_
  refine hc_drawP [0] follows_mixed ?_
  refine hh_y 0 rfl rfl rfl rfl (by kernel_rfl) (by kernel_rfl) (by kernel_rfl) (fun _ h => Mm.pick h [0] (by decide)) (y_move rfl rfl) ?_
  refine hh_y 2 rfl rfl rfl rfl (by kernel_rfl) (by kernel_rfl) (by kernel_rfl) (fun _ h => Mm.pick h [0] (by decide)) (y_move rfl rfl) ?_
  refine hh_i 1 rfl rfl rfl rfl (by kernel_rfl) (e_call0 rfl F25 rfl (fun w hw => gf_Inverse_ct _ w) rfl) (fun _ _ h => Mm.pick h [0] (by decide)) ?_; intro _
  refine hh_i 3 rfl rfl rfl rfl (by kernel_rfl) (e_call0 rfl F26 rfl (fun w hw => r10_Inverse_ct _ w) rfl) (fun _ _ h => Mm.pick h [0] (by decide)) ?_; intro _
  refine hh_y 4 rfl rfl rfl rfl (by kernel_rfl) (by kernel_rfl) (by kernel_rfl) (fun _ h => Mm.pick h [0] (by decide)) (y_as (y_eqlb rfl rfl rfl) (congrArg Value.bool (decide_eq_true ((invR_eq a).symm)))) ?_
  refine hh_y 5 rfl rfl rfl rfl (by kernel_rfl) (by kernel_rfl) (by kernel_rfl) (fun _ h => Mm.pick h [0] (by decide)) (y_move rfl rfl) ?_
  refine hh_yg 6 5 10 true rfl rfl rfl rfl rfl rfl (by kernel_rfl) (by kernel_rfl) (by kernel_rfl) (fun _ h => Mm.pick h [0] (by decide)) (y_move rfl rfl) ?_
  refine hh_yg 8 5 10 true rfl rfl rfl rfl rfl rfl (by kernel_rfl) (by kernel_rfl) (by kernel_rfl) (fun _ h => Mm.pick h [0] (by decide)) (y_move rfl rfl) ?_
  refine hh_ig 7 5 10 true rfl rfl rfl rfl rfl rfl (by kernel_rfl) (e_call0 rfl F27 rfl (fun w hw => gf_Box_ct _ w) rfl) (fun _ _ h => Mm.pick h [0] (by decide)) ?_; intro _
  refine hh_ig 9 5 10 true rfl rfl rfl rfl rfl rfl (by kernel_rfl) (e_call0 rfl F28 rfl (fun w hw => r10_Box_ct _ w) rfl) (fun _ _ h => Mm.pick h [0] (by decide)) ?_; intro _
  refine hh_yg 10 5 10 true rfl rfl rfl rfl rfl rfl (by kernel_rfl) (by kernel_rfl) (by kernel_rfl) (fun _ h => Mm.pick h [0] (by decide)) (y_as (y_eqlb rfl rfl rfl) (congrArg Value.bool (decide_eq_true (box_eq a)))) ?_
  refine hh_y 11 rfl rfl rfl rfl (by kernel_rfl) (by kernel_rfl) (by kernel_rfl) (fun _ h => Mm.pick h [0] (by decide)) (y_pick (b := true) rfl rfl rfl) ?_
  refine hh_y 12 rfl rfl rfl rfl (by kernel_rfl) (by kernel_rfl) (by kernel_rfl) (fun _ h => Mm.pick h [0] (by decide)) (y_move rfl rfl) ?_
  refine hh_yg 13 12 17 true rfl rfl rfl rfl rfl rfl (by kernel_rfl) (by kernel_rfl) (by kernel_rfl) (fun _ h => Mm.pick h [0] (by decide)) (y_ldw 0 rfl T32 rfl rfl) ?_
  refine hh_yg 15 12 17 true rfl rfl rfl rfl rfl rfl (by kernel_rfl) (by kernel_rfl) (by kernel_rfl) (fun _ h => Mm.pick h [0] (by decide)) (y_ldw 0 rfl T32 rfl rfl) ?_
  refine hh_ig 14 12 17 true rfl rfl rfl rfl rfl rfl (by kernel_rfl) (e_call0 rfl F29 rfl (fun w hw => gf_Column_ct _ w) rfl) (fun _ _ h => Mm.pick h [0] (by decide)) ?_; intro _
  refine hh_ig 16 12 17 true rfl rfl rfl rfl rfl rfl (by kernel_rfl) (e_call0 rfl F30 rfl (fun w hw => r10_Column_ct _ w) rfl) (fun _ _ h => Mm.pick h [0] (by decide)) ?_; intro _
  refine hh_yg 17 12 17 true rfl rfl rfl rfl rfl rfl (by kernel_rfl) (by kernel_rfl) (by kernel_rfl) (fun _ h => Mm.pick h [0] (by decide)) (y_as (y_eqlarr Q32 rfl rfl rfl) (congrArg Value.bool (eqn_true (col_eq f)))) ?_
  refine hh_y 18 rfl rfl rfl rfl (by kernel_rfl) (by kernel_rfl) (by kernel_rfl) (fun _ h => Mm.pick h [0] (by decide)) (y_pick (b := true) rfl rfl rfl) ?_
  refine hh_y 19 rfl rfl rfl rfl (by kernel_rfl) (by kernel_rfl) (by kernel_rfl) (fun _ h => Mm.pick h [0] (by decide)) (y_move rfl rfl) ?_
  refine hh_ig 20 19 24 true rfl rfl rfl rfl rfl rfl (by kernel_rfl) (e_call0 rfl F24 rfl (fun w hw => law10_alive_ct w) rfl) (fun _ _ h => Mm.pick h [0] (by decide)) ?_; intro _
  refine hh_y 21 rfl rfl rfl rfl (by kernel_rfl) (by kernel_rfl) (by kernel_rfl) (fun _ h => Mm.pick h [0] (by decide)) (y_pick (b := true) rfl rfl rfl) ?_
  refine hh_y 22 rfl rfl rfl rfl (by kernel_rfl) (by kernel_rfl) (by kernel_rfl) (fun _ h => Mm.pick h [0] (by decide)) (y_assign rfl rfl) ?_
  refine hh_done (by kernel_rfl) ?_
  refine hq_then ?_
  refine hc_ret ?_
  exact hq_ret1 (()) rfl (rv_tmp rfl) rfl (fun _ h => Mm.pick h [] (by simp))

theorem gfField_ne (a b c : UInt8) (d : Nat → UInt8) (ha : a ≠ 0) (w : World) : Ct0 Try.prog 6 #[vb a, vb b, vb c, .agg (ns vb 4 d).toArray] w (.bool true) := by
  refine ct0_of Try.func6 rfl Try.ntmps6 rfl ?_
  refine hc_seq ?_
  refine hc_region ?_
  refine hl_i rfl rfl rfl (e_boxa rfl rfl) ?_; intro g7
  refine hl_y rfl rfl rfl (y_assign rfl rfl) ?_
  refine hl_nil ?_
  refine hq_then ?_
  refine hc_seq ?_
  refine hc_seq ?_
  refine hc_region ?_
  refine hl_y rfl rfl rfl (y_move rfl rfl) ?_
  refine hl_y rfl rfl rfl (y_move rfl rfl) ?_
  refine hl_i rfl rfl rfl (e_call0 rfl F20 rfl (fun w hw => gf_Mul_ct _ _ w) rfl) ?_; intro _
  refine hl_y rfl rfl rfl (y_move rfl rfl) ?_
  refine hl_y rfl rfl rfl (y_move rfl rfl) ?_
  refine hl_i rfl rfl rfl (e_call0 rfl F20 rfl (fun w hw => gf_Mul_ct _ _ w) rfl) ?_; intro _
  refine hl_y rfl rfl rfl (y_as (y_neqb rfl rfl rfl) (congrArg Value.bool (decide_eq_false (not_not_intro (by rw [mulG_eq, mulG_eq, mulR_comm]))))) ?_
  refine hl_y rfl rfl rfl (y_move rfl rfl) ?_
  refine hl_yg 7 16 false rfl rfl rfl rfl rfl (y_move rfl rfl) ?_
  refine hl_yg 7 16 false rfl rfl rfl rfl rfl (y_move rfl rfl) ?_
  refine hl_yg 7 16 false rfl rfl rfl rfl rfl (y_move rfl rfl) ?_
  refine hl_ig 7 16 false rfl rfl rfl rfl rfl (e_call0 rfl F20 rfl (fun w hw => gf_Mul_ct _ _ w) rfl) ?_; intro _
  refine hl_ig 7 16 false rfl rfl rfl rfl rfl (e_call0 rfl F20 rfl (fun w hw => gf_Mul_ct _ _ w) rfl) ?_; intro _
  refine hl_yg 7 16 false rfl rfl rfl rfl rfl (y_move rfl rfl) ?_
  refine hl_yg 7 16 false rfl rfl rfl rfl rfl (y_move rfl rfl) ?_
  refine hl_ig 7 16 false rfl rfl rfl rfl rfl (e_call0 rfl F20 rfl (fun w hw => gf_Mul_ct _ _ w) rfl) ?_; intro _
  refine hl_yg 7 16 false rfl rfl rfl rfl rfl (y_move rfl rfl) ?_
  refine hl_ig 7 16 false rfl rfl rfl rfl rfl (e_call0 rfl F20 rfl (fun w hw => gf_Mul_ct _ _ w) rfl) ?_; intro _
  refine hl_yg 7 16 false rfl rfl rfl rfl rfl (y_as (y_neqb rfl rfl rfl) (congrArg Value.bool (decide_eq_false (not_not_intro (by rw [mulG_eq, mulG_eq, mulG_eq, mulG_eq, mulR_assoc]))))) ?_
  refine hl_y rfl rfl rfl (y_pick (b := false) rfl rfl rfl) ?_
  refine hl_y rfl rfl rfl (y_move rfl rfl) ?_
  refine hl_yg 20 29 false rfl rfl rfl rfl rfl (y_move rfl rfl) ?_
  refine hl_yg 20 29 false rfl rfl rfl rfl rfl (y_move rfl rfl) ?_
  refine hl_yg 20 29 false rfl rfl rfl rfl rfl (y_move rfl rfl) ?_
  refine hl_yg 20 29 false rfl rfl rfl rfl rfl (y_xorb rfl rfl rfl) ?_
  refine hl_ig 20 29 false rfl rfl rfl rfl rfl (e_call0 rfl F20 rfl (fun w hw => gf_Mul_ct _ _ w) rfl) ?_; intro _
  refine hl_yg 20 29 false rfl rfl rfl rfl rfl (y_move rfl rfl) ?_
  refine hl_yg 20 29 false rfl rfl rfl rfl rfl (y_move rfl rfl) ?_
  refine hl_ig 20 29 false rfl rfl rfl rfl rfl (e_call0 rfl F20 rfl (fun w hw => gf_Mul_ct _ _ w) rfl) ?_; intro _
  refine hl_yg 20 29 false rfl rfl rfl rfl rfl (y_move rfl rfl) ?_
  refine hl_yg 20 29 false rfl rfl rfl rfl rfl (y_move rfl rfl) ?_
  refine hl_ig 20 29 false rfl rfl rfl rfl rfl (e_call0 rfl F20 rfl (fun w hw => gf_Mul_ct _ _ w) rfl) ?_; intro _
  refine hl_yg 20 29 false rfl rfl rfl rfl rfl (y_xorb rfl rfl rfl) ?_
  refine hl_yg 20 29 false rfl rfl rfl rfl rfl (y_as (y_neqb rfl rfl rfl) (congrArg Value.bool (decide_eq_false (not_not_intro (by rw [mulG_eq, mulG_eq, mulG_eq, mulR_y]))))) ?_
  refine hl_y rfl rfl rfl (y_pick (b := false) rfl rfl rfl) ?_
  refine hl_y rfl rfl rfl (y_move rfl rfl) ?_
  refine hl_yg 35 44 false rfl rfl rfl rfl rfl (y_move rfl rfl) ?_
  refine hl_ig 35 44 false rfl rfl rfl rfl rfl (e_call0 rfl F20 rfl (fun w hw => gf_Mul_ct _ 1 w) rfl) ?_; intro _
  refine hl_yg 35 44 false rfl rfl rfl rfl rfl (y_move rfl rfl) ?_
  refine hl_yg 35 44 false rfl rfl rfl rfl rfl (y_as (y_neqb rfl rfl rfl) (congrArg Value.bool (decide_eq_false (not_not_intro (by rw [mulG_eq, mulR_one]))))) ?_
  refine hl_y rfl rfl rfl (y_pick (b := false) rfl rfl rfl) ?_
  refine hl_nil ?_
  refine hq_then ?_
  refine hc_ifF rfl ?_
  refine hc_skip ?_
  refine hq_then ?_
  refine hc_seq ?_
  refine hc_seq ?_
  refine hc_region ?_
  refine hl_y rfl rfl rfl (y_move rfl rfl) ?_
  refine hl_y rfl rfl rfl (y_as (y_neqb (q := 0) rfl rfl rfl) (congrArg Value.bool (decide_eq_true (ha)))) ?_
  refine hl_y rfl rfl rfl (y_move rfl rfl) ?_
  refine hl_yg 2 52 true rfl rfl rfl rfl rfl (y_move rfl rfl) ?_
  refine hl_yg 2 52 true rfl rfl rfl rfl rfl (y_move rfl rfl) ?_
  refine hl_ig 2 52 true rfl rfl rfl rfl rfl (e_call0 rfl F25 rfl (fun w hw => gf_Inverse_ct _ w) rfl) ?_; intro _
  refine hl_ig 2 52 true rfl rfl rfl rfl rfl (e_call0 rfl F20 rfl (fun w hw => gf_Mul_ct _ _ w) rfl) ?_; intro _
  refine hl_yg 2 52 true rfl rfl rfl rfl rfl (y_as (y_neqb (q := 1) rfl rfl rfl) (congrArg Value.bool (decide_eq_false (not_not_intro (by rw [mulG_eq]; exact inv_base a ha))))) ?_
  refine hl_y rfl rfl rfl (y_pick (b := true) rfl rfl rfl) ?_
  refine hl_y rfl rfl rfl (y_move rfl rfl) ?_
  refine hl_yg 9 59 false rfl rfl rfl rfl rfl (y_move rfl rfl) ?_
  refine hl_ig 9 59 false rfl rfl rfl rfl rfl (e_call0 rfl F25 rfl (fun w hw => gf_Inverse_ct _ w) rfl) ?_; intro _
  refine hl_ig 9 59 false rfl rfl rfl rfl rfl (e_call0 rfl F25 rfl (fun w hw => gf_Inverse_ct _ w) rfl) ?_; intro _
  refine hl_yg 9 59 false rfl rfl rfl rfl rfl (y_move rfl rfl) ?_
  refine hl_yg 9 59 false rfl rfl rfl rfl rfl (y_as (y_neqb rfl rfl rfl) (congrArg Value.bool (decide_eq_false (not_not_intro (inv_inv a))))) ?_
  refine hl_y rfl rfl rfl (y_pick (b := false) rfl rfl rfl) ?_
  refine hl_nil ?_
  refine hq_then ?_
  refine hc_ifF rfl ?_
  refine hc_skip ?_
  refine hq_then ?_
  refine hc_seq ?_
  refine hc_drawP [0] follows_mixed ?_
  refine hh_y 0 rfl rfl rfl rfl (by kernel_rfl) (by kernel_rfl) (by kernel_rfl) (fun _ h => Mm.pick h [0] (by decide)) (y_ldw 0 rfl T32 rfl rfl) ?_
  refine hh_y 5 rfl rfl rfl rfl (by kernel_rfl) (by kernel_rfl) (by kernel_rfl) (fun _ h => Mm.pick h [0] (by decide)) (y_ldw 0 rfl T32 rfl rfl) ?_
  refine hh_i 1 rfl rfl rfl rfl (by kernel_rfl) (e_call0 rfl F29 rfl (fun w hw => gf_Column_ct _ w) rfl) (fun _ _ h => Mm.pick h [0] (by decide)) ?_; intro _
  refine hh_i 2 rfl rfl rfl rfl (by kernel_rfl) (e_call0 rfl F29 rfl (fun w hw => gf_Column_ct _ w) rfl) (fun _ _ h => Mm.pick h [0] (by decide)) ?_; intro _
  refine hh_i 3 rfl rfl rfl rfl (by kernel_rfl) (e_call0 rfl F29 rfl (fun w hw => gf_Column_ct _ w) rfl) (fun _ _ h => Mm.pick h [0] (by decide)) ?_; intro _
  refine hh_i 4 rfl rfl rfl rfl (by kernel_rfl) (e_call0 rfl F29 rfl (fun w hw => gf_Column_ct _ w) rfl) (fun _ _ h => Mm.pick h [0] (by decide)) ?_; intro _
  refine hh_y 6 rfl rfl rfl rfl (by kernel_rfl) (by kernel_rfl) (by kernel_rfl) (fun _ h => Mm.pick h [0] (by decide)) (y_as (y_eqlarr Q32 rfl rfl rfl) (congrArg Value.bool (eqn_true (colG4 d)))) ?_
  refine hh_y 7 rfl rfl rfl rfl (by kernel_rfl) (by kernel_rfl) (by kernel_rfl) (fun _ h => Mm.pick h [0] (by decide)) (y_move rfl rfl) ?_
  refine hh_ig 8 7 73 true rfl rfl rfl rfl rfl rfl (by kernel_rfl) (e_call0 rfl F24 rfl (fun w hw => law10_alive_ct w) rfl) (fun _ _ h => Mm.pick h [0] (by decide)) ?_; intro _
  refine hh_y 9 rfl rfl rfl rfl (by kernel_rfl) (by kernel_rfl) (by kernel_rfl) (fun _ h => Mm.pick h [0] (by decide)) (y_pick (b := true) rfl rfl rfl) ?_
  refine hh_y 10 rfl rfl rfl rfl (by kernel_rfl) (by kernel_rfl) (by kernel_rfl) (fun _ h => Mm.pick h [0] (by decide)) (y_assign rfl rfl) ?_
  refine hh_done (by kernel_rfl) ?_
  refine hq_then ?_
  refine hc_ret ?_
  exact hq_ret1 (()) rfl (rv_tmp rfl) rfl (fun _ h => Mm.pick h [] (by simp))

theorem gfField_z (a b c : UInt8) (d : Nat → UInt8) (ha : a = 0) (w : World) : Ct0 Try.prog 6 #[vb a, vb b, vb c, .agg (ns vb 4 d).toArray] w (.bool true) := by
  refine ct0_of Try.func6 rfl Try.ntmps6 rfl ?_
  refine hc_seq ?_
  refine hc_region ?_
  refine hl_i rfl rfl rfl (e_boxa rfl rfl) ?_; intro g7
  refine hl_y rfl rfl rfl (y_assign rfl rfl) ?_
  refine hl_nil ?_
  refine hq_then ?_
  refine hc_seq ?_
  refine hc_seq ?_
  refine hc_region ?_
  refine hl_y rfl rfl rfl (y_move rfl rfl) ?_
  refine hl_y rfl rfl rfl (y_move rfl rfl) ?_
  refine hl_i rfl rfl rfl (e_call0 rfl F20 rfl (fun w hw => gf_Mul_ct _ _ w) rfl) ?_; intro _
  refine hl_y rfl rfl rfl (y_move rfl rfl) ?_
  refine hl_y rfl rfl rfl (y_move rfl rfl) ?_
  refine hl_i rfl rfl rfl (e_call0 rfl F20 rfl (fun w hw => gf_Mul_ct _ _ w) rfl) ?_; intro _
  refine hl_y rfl rfl rfl (y_as (y_neqb rfl rfl rfl) (congrArg Value.bool (decide_eq_false (not_not_intro (by rw [mulG_eq, mulG_eq, mulR_comm]))))) ?_
  refine hl_y rfl rfl rfl (y_move rfl rfl) ?_
  refine hl_yg 7 16 false rfl rfl rfl rfl rfl (y_move rfl rfl) ?_
  refine hl_yg 7 16 false rfl rfl rfl rfl rfl (y_move rfl rfl) ?_
  refine hl_yg 7 16 false rfl rfl rfl rfl rfl (y_move rfl rfl) ?_
  refine hl_ig 7 16 false rfl rfl rfl rfl rfl (e_call0 rfl F20 rfl (fun w hw => gf_Mul_ct _ _ w) rfl) ?_; intro _
  refine hl_ig 7 16 false rfl rfl rfl rfl rfl (e_call0 rfl F20 rfl (fun w hw => gf_Mul_ct _ _ w) rfl) ?_; intro _
  refine hl_yg 7 16 false rfl rfl rfl rfl rfl (y_move rfl rfl) ?_
  refine hl_yg 7 16 false rfl rfl rfl rfl rfl (y_move rfl rfl) ?_
  refine hl_ig 7 16 false rfl rfl rfl rfl rfl (e_call0 rfl F20 rfl (fun w hw => gf_Mul_ct _ _ w) rfl) ?_; intro _
  refine hl_yg 7 16 false rfl rfl rfl rfl rfl (y_move rfl rfl) ?_
  refine hl_ig 7 16 false rfl rfl rfl rfl rfl (e_call0 rfl F20 rfl (fun w hw => gf_Mul_ct _ _ w) rfl) ?_; intro _
  refine hl_yg 7 16 false rfl rfl rfl rfl rfl (y_as (y_neqb rfl rfl rfl) (congrArg Value.bool (decide_eq_false (not_not_intro (by rw [mulG_eq, mulG_eq, mulG_eq, mulG_eq, mulR_assoc]))))) ?_
  refine hl_y rfl rfl rfl (y_pick (b := false) rfl rfl rfl) ?_
  refine hl_y rfl rfl rfl (y_move rfl rfl) ?_
  refine hl_yg 20 29 false rfl rfl rfl rfl rfl (y_move rfl rfl) ?_
  refine hl_yg 20 29 false rfl rfl rfl rfl rfl (y_move rfl rfl) ?_
  refine hl_yg 20 29 false rfl rfl rfl rfl rfl (y_move rfl rfl) ?_
  refine hl_yg 20 29 false rfl rfl rfl rfl rfl (y_xorb rfl rfl rfl) ?_
  refine hl_ig 20 29 false rfl rfl rfl rfl rfl (e_call0 rfl F20 rfl (fun w hw => gf_Mul_ct _ _ w) rfl) ?_; intro _
  refine hl_yg 20 29 false rfl rfl rfl rfl rfl (y_move rfl rfl) ?_
  refine hl_yg 20 29 false rfl rfl rfl rfl rfl (y_move rfl rfl) ?_
  refine hl_ig 20 29 false rfl rfl rfl rfl rfl (e_call0 rfl F20 rfl (fun w hw => gf_Mul_ct _ _ w) rfl) ?_; intro _
  refine hl_yg 20 29 false rfl rfl rfl rfl rfl (y_move rfl rfl) ?_
  refine hl_yg 20 29 false rfl rfl rfl rfl rfl (y_move rfl rfl) ?_
  refine hl_ig 20 29 false rfl rfl rfl rfl rfl (e_call0 rfl F20 rfl (fun w hw => gf_Mul_ct _ _ w) rfl) ?_; intro _
  refine hl_yg 20 29 false rfl rfl rfl rfl rfl (y_xorb rfl rfl rfl) ?_
  refine hl_yg 20 29 false rfl rfl rfl rfl rfl (y_as (y_neqb rfl rfl rfl) (congrArg Value.bool (decide_eq_false (not_not_intro (by rw [mulG_eq, mulG_eq, mulG_eq, mulR_y]))))) ?_
  refine hl_y rfl rfl rfl (y_pick (b := false) rfl rfl rfl) ?_
  refine hl_y rfl rfl rfl (y_move rfl rfl) ?_
  refine hl_yg 35 44 false rfl rfl rfl rfl rfl (y_move rfl rfl) ?_
  refine hl_ig 35 44 false rfl rfl rfl rfl rfl (e_call0 rfl F20 rfl (fun w hw => gf_Mul_ct _ 1 w) rfl) ?_; intro _
  refine hl_yg 35 44 false rfl rfl rfl rfl rfl (y_move rfl rfl) ?_
  refine hl_yg 35 44 false rfl rfl rfl rfl rfl (y_as (y_neqb rfl rfl rfl) (congrArg Value.bool (decide_eq_false (not_not_intro (by rw [mulG_eq, mulR_one]))))) ?_
  refine hl_y rfl rfl rfl (y_pick (b := false) rfl rfl rfl) ?_
  refine hl_nil ?_
  refine hq_then ?_
  refine hc_ifF rfl ?_
  refine hc_skip ?_
  refine hq_then ?_
  refine hc_seq ?_
  refine hc_seq ?_
  refine hc_region ?_
  refine hl_y rfl rfl rfl (y_move rfl rfl) ?_
  refine hl_y rfl rfl rfl (y_as (y_neqb (q := 0) rfl rfl rfl) (congrArg Value.bool (decide_eq_false (not_not_intro (ha))))) ?_
  refine hl_y rfl rfl rfl (y_move rfl rfl) ?_
  refine hl_no 2 52 true false rfl rfl rfl rfl rfl rfl ?_
  refine hl_no 2 52 true false rfl rfl rfl rfl rfl rfl ?_
  refine hl_no 2 52 true false rfl rfl rfl rfl rfl rfl ?_
  refine hl_no 2 52 true false rfl rfl rfl rfl rfl rfl ?_
  refine hl_no 2 52 true false rfl rfl rfl rfl rfl rfl ?_
  refine hl_y rfl rfl rfl (y_pick (b := false) rfl rfl rfl) ?_
  refine hl_y rfl rfl rfl (y_move rfl rfl) ?_
  refine hl_yg 9 59 false rfl rfl rfl rfl rfl (y_move rfl rfl) ?_
  refine hl_ig 9 59 false rfl rfl rfl rfl rfl (e_call0 rfl F25 rfl (fun w hw => gf_Inverse_ct _ w) rfl) ?_; intro _
  refine hl_ig 9 59 false rfl rfl rfl rfl rfl (e_call0 rfl F25 rfl (fun w hw => gf_Inverse_ct _ w) rfl) ?_; intro _
  refine hl_yg 9 59 false rfl rfl rfl rfl rfl (y_move rfl rfl) ?_
  refine hl_yg 9 59 false rfl rfl rfl rfl rfl (y_as (y_neqb rfl rfl rfl) (congrArg Value.bool (decide_eq_false (not_not_intro (inv_inv a))))) ?_
  refine hl_y rfl rfl rfl (y_pick (b := false) rfl rfl rfl) ?_
  refine hl_nil ?_
  refine hq_then ?_
  refine hc_ifF rfl ?_
  refine hc_skip ?_
  refine hq_then ?_
  refine hc_seq ?_
  refine hc_drawP [0] follows_mixed ?_
  refine hh_y 0 rfl rfl rfl rfl (by kernel_rfl) (by kernel_rfl) (by kernel_rfl) (fun _ h => Mm.pick h [0] (by decide)) (y_ldw 0 rfl T32 rfl rfl) ?_
  refine hh_y 5 rfl rfl rfl rfl (by kernel_rfl) (by kernel_rfl) (by kernel_rfl) (fun _ h => Mm.pick h [0] (by decide)) (y_ldw 0 rfl T32 rfl rfl) ?_
  refine hh_i 1 rfl rfl rfl rfl (by kernel_rfl) (e_call0 rfl F29 rfl (fun w hw => gf_Column_ct _ w) rfl) (fun _ _ h => Mm.pick h [0] (by decide)) ?_; intro _
  refine hh_i 2 rfl rfl rfl rfl (by kernel_rfl) (e_call0 rfl F29 rfl (fun w hw => gf_Column_ct _ w) rfl) (fun _ _ h => Mm.pick h [0] (by decide)) ?_; intro _
  refine hh_i 3 rfl rfl rfl rfl (by kernel_rfl) (e_call0 rfl F29 rfl (fun w hw => gf_Column_ct _ w) rfl) (fun _ _ h => Mm.pick h [0] (by decide)) ?_; intro _
  refine hh_i 4 rfl rfl rfl rfl (by kernel_rfl) (e_call0 rfl F29 rfl (fun w hw => gf_Column_ct _ w) rfl) (fun _ _ h => Mm.pick h [0] (by decide)) ?_; intro _
  refine hh_y 6 rfl rfl rfl rfl (by kernel_rfl) (by kernel_rfl) (by kernel_rfl) (fun _ h => Mm.pick h [0] (by decide)) (y_as (y_eqlarr Q32 rfl rfl rfl) (congrArg Value.bool (eqn_true (colG4 d)))) ?_
  refine hh_y 7 rfl rfl rfl rfl (by kernel_rfl) (by kernel_rfl) (by kernel_rfl) (fun _ h => Mm.pick h [0] (by decide)) (y_move rfl rfl) ?_
  refine hh_ig 8 7 73 true rfl rfl rfl rfl rfl rfl (by kernel_rfl) (e_call0 rfl F24 rfl (fun w hw => law10_alive_ct w) rfl) (fun _ _ h => Mm.pick h [0] (by decide)) ?_; intro _
  refine hh_y 9 rfl rfl rfl rfl (by kernel_rfl) (by kernel_rfl) (by kernel_rfl) (fun _ h => Mm.pick h [0] (by decide)) (y_pick (b := true) rfl rfl rfl) ?_
  refine hh_y 10 rfl rfl rfl rfl (by kernel_rfl) (by kernel_rfl) (by kernel_rfl) (fun _ h => Mm.pick h [0] (by decide)) (y_assign rfl rfl) ?_
  refine hh_done (by kernel_rfl) ?_
  refine hq_then ?_
  refine hc_ret ?_
  exact hq_ret1 (()) rfl (rv_tmp rfl) rfl (fun _ h => Mm.pick h [] (by simp))

end Go.Proofs.Ytcdidapkpfnphaa
