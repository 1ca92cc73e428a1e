/- The laws of the streams: each call gives back true. -/
import Derived.Test.YtcdidapkpfnphaaCtrC
import Derived.Test.YtcdidapkpfnphaaPureCtr
namespace Go.Proofs.Ytcdidapkpfnphaa
open Go.RowKit
set_option linter.unusedVariables false
set_option linter.unusedSimpArgs false
theorem law12_alive_ct  (w : World) : Ct0 Try.prog 46 #[] w (.bool true) := by
  refine ct0_of Try.func46 rfl Try.ntmps46 rfl ?_
  refine hc_seq ?_
  refine hc_region ?_
  refine hl_y rfl rfl rfl (y_assign rfl rfl) ?_
  refine hl_nil ?_
  refine hq_then ?_
  refine hc_seq ?_
  refine hc_region ?_
  refine hl_i rfl rfl rfl (e_alloc rfl Z41) ?_; intro g1
  refine hl_nil ?_
  refine hq_then ?_
  refine hc_seq ?_
  refine hc_region ?_
  refine hl_y rfl rfl rfl (y_ixa1 (k := 15) rfl T41 O5 rfl rfl (by omega)) ?_
  refine hl_i0 rfl rfl (e_stn (u := 255) 0 rfl O5.2 rfl rfl rfl rfl (by omega)) ?_; intro _
  refine hl_nil ?_
  refine hq_then ?_
  refine hc_seq ?_
  refine hc_region ?_
  refine hl_y rfl rfl rfl (y_ldw 0 rfl T41 rfl rfl) ?_
  refine hl_i rfl rfl rfl (e_call0 rfl F51 rfl (fun w hw => ctr_Next_ct _ w) rfl) ?_; intro _
  refine hl_i rfl rfl rfl (e_alloc rfl Z41) ?_; intro g2
  refine hl_i0 rfl rfl (e_stw 0 rfl T41.2 rfl rfl rfl (ns_oneb _ _)) ?_; intro _
  refine hl_nil ?_
  refine hq_then ?_
  refine hc_seq ?_
  refine hc_drawP [] follows_mixed ?_
  refine hh_or2 0 1 (by kernel_rfl) ?_ ?_
  · skip
    refine ho_i 0 rfl rfl rfl rfl (e_make (l := 32) (c := 32) rfl S22 M5 rfl rfl rfl (by omega) (by omega) (by omega)) (fun _ _ h => Mm.pick h [] (by decide)) ?_; intro g9
    refine hh_i 1 rfl rfl rfl rfl (by kernel_rfl) (e_make (l := 16) (c := 16) rfl S22 M5 rfl rfl rfl (by omega) (by omega) (by omega)) (fun _ _ h => Mm.pick h [] (by decide)) ?_; intro g10
    refine hh_i 2 rfl rfl rfl rfl (by kernel_rfl) (e_call rfl F49 rfl (fun w hw => ctr_Stream_ct _ _ _ _ 3 (by omega) w ((rdZ 1 rfl) w hw) ((rdZ 0 rfl) w hw)) rfl) (fun _ _ h => Mm.pick h [] (by decide)) ?_; intro y11
    refine hh_y 3 rfl rfl rfl rfl (by kernel_rfl) (by kernel_rfl) (by kernel_rfl) (fun _ h => Mm.pick h [] (by decide)) (y_move rfl rfl) ?_
    refine hh_y 4 rfl rfl rfl rfl (by kernel_rfl) (by kernel_rfl) (by kernel_rfl) (fun _ h => Mm.pick h [] (by decide)) (y_extract rfl rfl rfl) ?_
    refine hh_y 5 rfl rfl rfl rfl (by kernel_rfl) (by kernel_rfl) (by kernel_rfl) (fun _ h => Mm.pick h [] (by decide)) (y_extract rfl rfl rfl) ?_
    refine hh_y 6 rfl rfl rfl rfl (by kernel_rfl) (by kernel_rfl) (by kernel_rfl) (fun _ h => Mm.pick h [] (by decide)) (y_assign rfl rfl) ?_
    refine hh_y 7 rfl rfl rfl rfl (by kernel_rfl) (by kernel_rfl) (by kernel_rfl) (fun _ h => Mm.pick h [] (by decide)) (y_assign rfl rfl) ?_
    refine hh_done (by kernel_rfl) ?_
    refine hq_then ?_
    refine hc_seq ?_
    refine hc_region ?_
    refine hl_y rfl rfl rfl (y_ixa1 (k := 14) rfl T41 O5 rfl rfl (by omega)) ?_
    refine hl_y rfl rfl rfl (y_ldn 3 rfl O5 rfl rfl (by omega)) ?_
    refine hl_y rfl rfl rfl (y_as (y_eqlb (q := 1) rfl rfl rfl) (congrArg Value.bool (decide_eq_true ((by decide +kernel))))) ?_
    refine hl_y rfl rfl rfl (y_move rfl rfl) ?_
    refine hl_yg 3 17 true rfl rfl rfl rfl rfl (y_ixa1 (k := 15) rfl T41 O5 rfl rfl (by omega)) ?_
    refine hl_yg 3 17 true rfl rfl rfl rfl rfl (y_ldn 3 rfl O5 rfl rfl (by omega)) ?_
    refine hl_yg 3 17 true rfl rfl rfl rfl rfl (y_as (y_eqlb (q := 0) rfl rfl rfl) (congrArg Value.bool (decide_eq_true ((by decide +kernel))))) ?_
    refine hl_y rfl rfl rfl (y_pick (b := true) rfl rfl rfl) ?_
    refine hl_y rfl rfl rfl (y_move rfl rfl) ?_
    refine hl_yg 8 22 true rfl rfl rfl rfl rfl (y_move rfl rfl) ?_
    refine hl_yg 8 22 true rfl rfl rfl rfl rfl (y_as (y_eqln (q := 0) rfl rfl rfl ) (congrArg Value.bool (decide_eq_true ((by decide +kernel))))) ?_
    refine hl_y rfl rfl rfl (y_pick (b := true) rfl rfl rfl) ?_
    refine hl_y rfl rfl rfl (y_move rfl rfl) ?_
    refine hl_yg 12 26 true rfl rfl rfl rfl rfl (y_move rfl rfl) ?_
    refine hl_yg 12 26 true rfl rfl rfl rfl rfl (y_lenE ((strN (List.replicate 32 (0 : UInt8)) (List.replicate 16 (0 : UInt8)) 3)) rfl rfl S22 rfl (rdR3 0 rfl (strN_le _ _ _)) (by rw [ls_len]; exact ovS_len _ _ _)) ?_
    refine hl_yg 12 26 true rfl rfl rfl rfl rfl (y_as (y_eqln (q := 3) rfl rfl rfl ) (congrArg Value.bool (decide_eq_true ((by decide +kernel))))) ?_
    refine hl_y rfl rfl rfl (y_pick (b := true) rfl rfl rfl) ?_
    refine hl_y rfl rfl rfl (y_assign rfl rfl) ?_
    refine hl_nil ?_
    refine hq_then ?_
    refine hc_ret ?_
    exact hq_ret1 (()) rfl (rv_tmp rfl) rfl (fun _ h => Mm.pick h [] (by simp))
  · skip
    refine ho_i 1 rfl rfl rfl rfl (e_make (l := 16) (c := 16) rfl S22 M5 rfl rfl rfl (by omega) (by omega) (by omega)) (fun _ _ h => Mm.pick h [] (by decide)) ?_; intro g10
    refine hh_i 0 rfl rfl rfl rfl (by kernel_rfl) (e_make (l := 32) (c := 32) rfl S22 M5 rfl rfl rfl (by omega) (by omega) (by omega)) (fun _ _ h => Mm.pick h [] (by decide)) ?_; intro g9
    refine hh_i 2 rfl rfl rfl rfl (by kernel_rfl) (e_call rfl F49 rfl (fun w hw => ctr_Stream_ct _ _ _ _ 3 (by omega) w ((rdZ 0 rfl) w hw) ((rdZ 1 rfl) w hw)) rfl) (fun _ _ h => Mm.pick h [] (by decide)) ?_; intro y11
    refine hh_y 3 rfl rfl rfl rfl (by kernel_rfl) (by kernel_rfl) (by kernel_rfl) (fun _ h => Mm.pick h [] (by decide)) (y_move rfl rfl) ?_
    refine hh_y 4 rfl rfl rfl rfl (by kernel_rfl) (by kernel_rfl) (by kernel_rfl) (fun _ h => Mm.pick h [] (by decide)) (y_extract rfl rfl rfl) ?_
    refine hh_y 5 rfl rfl rfl rfl (by kernel_rfl) (by kernel_rfl) (by kernel_rfl) (fun _ h => Mm.pick h [] (by decide)) (y_extract rfl rfl rfl) ?_
    refine hh_y 6 rfl rfl rfl rfl (by kernel_rfl) (by kernel_rfl) (by kernel_rfl) (fun _ h => Mm.pick h [] (by decide)) (y_assign rfl rfl) ?_
    refine hh_y 7 rfl rfl rfl rfl (by kernel_rfl) (by kernel_rfl) (by kernel_rfl) (fun _ h => Mm.pick h [] (by decide)) (y_assign rfl rfl) ?_
    refine hh_done (by kernel_rfl) ?_
    refine hq_then ?_
    refine hc_seq ?_
    refine hc_region ?_
    refine hl_y rfl rfl rfl (y_ixa1 (k := 14) rfl T41 O5 rfl rfl (by omega)) ?_
    refine hl_y rfl rfl rfl (y_ldn 3 rfl O5 rfl rfl (by omega)) ?_
    refine hl_y rfl rfl rfl (y_as (y_eqlb (q := 1) rfl rfl rfl) (congrArg Value.bool (decide_eq_true ((by decide +kernel))))) ?_
    refine hl_y rfl rfl rfl (y_move rfl rfl) ?_
    refine hl_yg 3 17 true rfl rfl rfl rfl rfl (y_ixa1 (k := 15) rfl T41 O5 rfl rfl (by omega)) ?_
    refine hl_yg 3 17 true rfl rfl rfl rfl rfl (y_ldn 3 rfl O5 rfl rfl (by omega)) ?_
    refine hl_yg 3 17 true rfl rfl rfl rfl rfl (y_as (y_eqlb (q := 0) rfl rfl rfl) (congrArg Value.bool (decide_eq_true ((by decide +kernel))))) ?_
    refine hl_y rfl rfl rfl (y_pick (b := true) rfl rfl rfl) ?_
    refine hl_y rfl rfl rfl (y_move rfl rfl) ?_
    refine hl_yg 8 22 true rfl rfl rfl rfl rfl (y_move rfl rfl) ?_
    refine hl_yg 8 22 true rfl rfl rfl rfl rfl (y_as (y_eqln (q := 0) rfl rfl rfl ) (congrArg Value.bool (decide_eq_true ((by decide +kernel))))) ?_
    refine hl_y rfl rfl rfl (y_pick (b := true) rfl rfl rfl) ?_
    refine hl_y rfl rfl rfl (y_move rfl rfl) ?_
    refine hl_yg 12 26 true rfl rfl rfl rfl rfl (y_move rfl rfl) ?_
    refine hl_yg 12 26 true rfl rfl rfl rfl rfl (y_lenE ((strN (List.replicate 32 (0 : UInt8)) (List.replicate 16 (0 : UInt8)) 3)) rfl rfl S22 rfl (rdR3 0 rfl (strN_le _ _ _)) (by rw [ls_len]; exact ovS_len _ _ _)) ?_
    refine hl_yg 12 26 true rfl rfl rfl rfl rfl (y_as (y_eqln (q := 3) rfl rfl rfl ) (congrArg Value.bool (decide_eq_true ((by decide +kernel))))) ?_
    refine hl_y rfl rfl rfl (y_pick (b := true) rfl rfl rfl) ?_
    refine hl_y rfl rfl rfl (y_assign rfl rfl) ?_
    refine hl_nil ?_
    refine hq_then ?_
    refine hc_ret ?_
    exact hq_ret1 (()) rfl (rv_tmp rfl) rfl (fun _ h => Mm.pick h [] (by simp))

set_option maxHeartbeats 2000000 in
theorem ctrRows_pp (kl nl : List UInt8) (kv nv : Value) (c : Nat → UInt8) (n : Nat) (hb : n ≤ 9223372036854775807) (m : Nat) (hb2 : m ≤ 9223372036854775807) (w : World) (hk : Rd w kv (ls vb kl)) (hn : Rd w nv (ls vb nl)) : Ct0 Try.prog 11 #[kv, nv, .agg (ns vb 16 c).toArray, vi n, vi m] w (.bool true) := by
  refine ct0_of Try.func11 rfl Try.ntmps11 rfl ?_
  refine hc_seq ?_
  refine hc_region ?_
  refine hl_i rfl rfl rfl (e_boxa rfl rfl) ?_; intro g7
  refine hl_y rfl rfl rfl (y_assign rfl rfl) ?_
  refine hl_nil ?_
  refine hq_then ?_
  refine hc_seq ?_
  refine hc_seq ?_
  rcases Decidable.em (100 < kl.length) with k0 | k0
  · skip
    refine hc_region ?_
    refine hl_y rfl rfl rfl (y_move rfl rfl) ?_
    refine hl_y rfl rfl rfl (y_lenE (kl.length) rfl rfl S22 rfl (rdF hk) (by first | rfl | simp only [ls_len, ns_len] | (simp only [ls_len, ns_len]; omega))) ?_
    refine hl_y rfl rfl rfl (y_as (y_gtrn (q := 100) rfl rfl rfl ) (congrArg Value.bool (decide_eq_true (by omega)))) ?_
    refine hl_y rfl rfl rfl (y_move rfl rfl) ?_
    refine hl_no 3 22 false true rfl rfl rfl rfl rfl rfl ?_
    refine hl_no 3 22 false true rfl rfl rfl rfl rfl rfl ?_
    refine hl_no 3 22 false true rfl rfl rfl rfl rfl rfl ?_
    refine hl_y rfl rfl rfl (y_pick (b := true) rfl rfl rfl) ?_
    refine hl_y rfl rfl rfl (y_move rfl rfl) ?_
    refine hl_no 8 27 false true rfl rfl rfl rfl rfl rfl ?_
    refine hl_no 8 27 false true rfl rfl rfl rfl rfl rfl ?_
    refine hl_no 8 27 false true rfl rfl rfl rfl rfl rfl ?_
    refine hl_nou 11 30 true rfl rfl rfl rfl rfl ?_
    refine hl_nou 11 30 true rfl rfl rfl rfl rfl ?_
    refine hl_no 8 27 false true rfl rfl rfl rfl rfl rfl ?_
    refine hl_y rfl rfl rfl (y_pick (b := true) rfl rfl rfl) ?_
    refine hl_y rfl rfl rfl (y_move rfl rfl) ?_
    refine hl_no 16 35 false true rfl rfl rfl rfl rfl rfl ?_
    refine hl_no 16 35 false true rfl rfl rfl rfl rfl rfl ?_
    refine hl_no 16 35 false true rfl rfl rfl rfl rfl rfl ?_
    refine hl_nou 19 38 true rfl rfl rfl rfl rfl ?_
    refine hl_nou 19 38 true rfl rfl rfl rfl rfl ?_
    refine hl_no 16 35 false true rfl rfl rfl rfl rfl rfl ?_
    refine hl_y rfl rfl rfl (y_pick (b := true) rfl rfl rfl) ?_
    refine hl_nil ?_
    refine hq_then ?_
    refine hc_ifT rfl ?_
    refine hc_seq ?_
    refine hc_region ?_
    refine hl_i rfl rfl rfl (e_call0 rfl F46 rfl (fun w hw => law12_alive_ct w) rfl) ?_; intro _
    refine hl_y rfl rfl rfl (y_assign rfl rfl) ?_
    refine hl_nil ?_
    refine hq_then ?_
    refine hc_ret ?_
    exact hq_then_ret (hq_ret1 (()) rfl (rv_tmp rfl) rfl (fun _ h => Mm.pick h [] (by simp)))
  · skip
    rcases Decidable.em (100 < nl.length) with k1 | k1
    · skip
      refine hc_region ?_
      refine hl_y rfl rfl rfl (y_move rfl rfl) ?_
      refine hl_y rfl rfl rfl (y_lenE (kl.length) rfl rfl S22 rfl (rdF hk) (by first | rfl | simp only [ls_len, ns_len] | (simp only [ls_len, ns_len]; omega))) ?_
      refine hl_y rfl rfl rfl (y_as (y_gtrn (q := 100) rfl rfl rfl ) (congrArg Value.bool (decide_eq_false (by omega)))) ?_
      refine hl_y rfl rfl rfl (y_move rfl rfl) ?_
      refine hl_yg 3 22 false rfl rfl rfl rfl rfl (y_move rfl rfl) ?_
      refine hl_yg 3 22 false rfl rfl rfl rfl rfl (y_lenE (nl.length) rfl rfl S22 rfl (rdF hn) (by first | rfl | simp only [ls_len, ns_len] | (simp only [ls_len, ns_len]; omega))) ?_
      refine hl_yg 3 22 false rfl rfl rfl rfl rfl (y_as (y_gtrn (q := 100) rfl rfl rfl ) (congrArg Value.bool (decide_eq_true (by omega)))) ?_
      refine hl_y rfl rfl rfl (y_pick (b := false) rfl rfl rfl) ?_
      refine hl_y rfl rfl rfl (y_move rfl rfl) ?_
      refine hl_no 8 27 false true rfl rfl rfl rfl rfl rfl ?_
      refine hl_no 8 27 false true rfl rfl rfl rfl rfl rfl ?_
      refine hl_no 8 27 false true rfl rfl rfl rfl rfl rfl ?_
      refine hl_nou 11 30 true rfl rfl rfl rfl rfl ?_
      refine hl_nou 11 30 true rfl rfl rfl rfl rfl ?_
      refine hl_no 8 27 false true rfl rfl rfl rfl rfl rfl ?_
      refine hl_y rfl rfl rfl (y_pick (b := true) rfl rfl rfl) ?_
      refine hl_y rfl rfl rfl (y_move rfl rfl) ?_
      refine hl_no 16 35 false true rfl rfl rfl rfl rfl rfl ?_
      refine hl_no 16 35 false true rfl rfl rfl rfl rfl rfl ?_
      refine hl_no 16 35 false true rfl rfl rfl rfl rfl rfl ?_
      refine hl_nou 19 38 true rfl rfl rfl rfl rfl ?_
      refine hl_nou 19 38 true rfl rfl rfl rfl rfl ?_
      refine hl_no 16 35 false true rfl rfl rfl rfl rfl rfl ?_
      refine hl_y rfl rfl rfl (y_pick (b := true) rfl rfl rfl) ?_
      refine hl_nil ?_
      refine hq_then ?_
      refine hc_ifT rfl ?_
      refine hc_seq ?_
      refine hc_region ?_
      refine hl_i rfl rfl rfl (e_call0 rfl F46 rfl (fun w hw => law12_alive_ct w) rfl) ?_; intro _
      refine hl_y rfl rfl rfl (y_assign rfl rfl) ?_
      refine hl_nil ?_
      refine hq_then ?_
      refine hc_ret ?_
      exact hq_then_ret (hq_ret1 (()) rfl (rv_tmp rfl) rfl (fun _ h => Mm.pick h [] (by simp)))
    · skip
      rcases Decidable.em (300 < n) with k2 | k2
      · skip
        rcases Decidable.em (n ≤ 65535) with k3 | k3
        · skip
          refine hc_region ?_
          refine hl_y rfl rfl rfl (y_move rfl rfl) ?_
          refine hl_y rfl rfl rfl (y_lenE (kl.length) rfl rfl S22 rfl (rdF hk) (by first | rfl | simp only [ls_len, ns_len] | (simp only [ls_len, ns_len]; omega))) ?_
          refine hl_y rfl rfl rfl (y_as (y_gtrn (q := 100) rfl rfl rfl ) (congrArg Value.bool (decide_eq_false (by omega)))) ?_
          refine hl_y rfl rfl rfl (y_move rfl rfl) ?_
          refine hl_yg 3 22 false rfl rfl rfl rfl rfl (y_move rfl rfl) ?_
          refine hl_yg 3 22 false rfl rfl rfl rfl rfl (y_lenE (nl.length) rfl rfl S22 rfl (rdF hn) (by first | rfl | simp only [ls_len, ns_len] | (simp only [ls_len, ns_len]; omega))) ?_
          refine hl_yg 3 22 false rfl rfl rfl rfl rfl (y_as (y_gtrn (q := 100) rfl rfl rfl ) (congrArg Value.bool (decide_eq_false (by omega)))) ?_
          refine hl_y rfl rfl rfl (y_pick (b := false) rfl rfl rfl) ?_
          refine hl_y rfl rfl rfl (y_move rfl rfl) ?_
          refine hl_yg 8 27 false rfl rfl rfl rfl rfl (y_move rfl rfl) ?_
          refine hl_yg 8 27 false rfl rfl rfl rfl rfl (y_as (y_gtrn (q := 300) rfl rfl rfl ) (congrArg Value.bool (decide_eq_true (by omega)))) ?_
          refine hl_yg 8 27 false rfl rfl rfl rfl rfl (y_move rfl rfl) ?_
          refine hl_yg 11 30 true rfl rfl rfl rfl rfl (y_move rfl rfl) ?_
          refine hl_yg 11 30 true rfl rfl rfl rfl rfl (y_as (y_leqn (q := 65535) rfl rfl rfl ) (congrArg Value.bool (decide_eq_true (by omega)))) ?_
          refine hl_yg 8 27 false rfl rfl rfl rfl rfl (y_pick (b := true) rfl rfl rfl) ?_
          refine hl_y rfl rfl rfl (y_pick (b := false) rfl rfl rfl) ?_
          refine hl_y rfl rfl rfl (y_move rfl rfl) ?_
          refine hl_no 16 35 false true rfl rfl rfl rfl rfl rfl ?_
          refine hl_no 16 35 false true rfl rfl rfl rfl rfl rfl ?_
          refine hl_no 16 35 false true rfl rfl rfl rfl rfl rfl ?_
          refine hl_nou 19 38 true rfl rfl rfl rfl rfl ?_
          refine hl_nou 19 38 true rfl rfl rfl rfl rfl ?_
          refine hl_no 16 35 false true rfl rfl rfl rfl rfl rfl ?_
          refine hl_y rfl rfl rfl (y_pick (b := true) rfl rfl rfl) ?_
          refine hl_nil ?_
          refine hq_then ?_
          refine hc_ifT rfl ?_
          refine hc_seq ?_
          refine hc_region ?_
          refine hl_i rfl rfl rfl (e_call0 rfl F46 rfl (fun w hw => law12_alive_ct w) rfl) ?_; intro _
          refine hl_y rfl rfl rfl (y_assign rfl rfl) ?_
          refine hl_nil ?_
          refine hq_then ?_
          refine hc_ret ?_
          exact hq_then_ret (hq_ret1 (()) rfl (rv_tmp rfl) rfl (fun _ h => Mm.pick h [] (by simp)))
        · skip
          rcases Decidable.em (200 < m) with k4 | k4
          · skip
            rcases Decidable.em (m ≤ 65536) with k5 | k5
            · skip
              refine hc_region ?_
              refine hl_y rfl rfl rfl (y_move rfl rfl) ?_
              refine hl_y rfl rfl rfl (y_lenE (kl.length) rfl rfl S22 rfl (rdF hk) (by first | rfl | simp only [ls_len, ns_len] | (simp only [ls_len, ns_len]; omega))) ?_
              refine hl_y rfl rfl rfl (y_as (y_gtrn (q := 100) rfl rfl rfl ) (congrArg Value.bool (decide_eq_false (by omega)))) ?_
              refine hl_y rfl rfl rfl (y_move rfl rfl) ?_
              refine hl_yg 3 22 false rfl rfl rfl rfl rfl (y_move rfl rfl) ?_
              refine hl_yg 3 22 false rfl rfl rfl rfl rfl (y_lenE (nl.length) rfl rfl S22 rfl (rdF hn) (by first | rfl | simp only [ls_len, ns_len] | (simp only [ls_len, ns_len]; omega))) ?_
              refine hl_yg 3 22 false rfl rfl rfl rfl rfl (y_as (y_gtrn (q := 100) rfl rfl rfl ) (congrArg Value.bool (decide_eq_false (by omega)))) ?_
              refine hl_y rfl rfl rfl (y_pick (b := false) rfl rfl rfl) ?_
              refine hl_y rfl rfl rfl (y_move rfl rfl) ?_
              refine hl_yg 8 27 false rfl rfl rfl rfl rfl (y_move rfl rfl) ?_
              refine hl_yg 8 27 false rfl rfl rfl rfl rfl (y_as (y_gtrn (q := 300) rfl rfl rfl ) (congrArg Value.bool (decide_eq_true (by omega)))) ?_
              refine hl_yg 8 27 false rfl rfl rfl rfl rfl (y_move rfl rfl) ?_
              refine hl_yg 11 30 true rfl rfl rfl rfl rfl (y_move rfl rfl) ?_
              refine hl_yg 11 30 true rfl rfl rfl rfl rfl (y_as (y_leqn (q := 65535) rfl rfl rfl ) (congrArg Value.bool (decide_eq_false (by omega)))) ?_
              refine hl_yg 8 27 false rfl rfl rfl rfl rfl (y_pick (b := true) rfl rfl rfl) ?_
              refine hl_y rfl rfl rfl (y_pick (b := false) rfl rfl rfl) ?_
              refine hl_y rfl rfl rfl (y_move rfl rfl) ?_
              refine hl_yg 16 35 false rfl rfl rfl rfl rfl (y_move rfl rfl) ?_
              refine hl_yg 16 35 false rfl rfl rfl rfl rfl (y_as (y_gtrn (q := 200) rfl rfl rfl ) (congrArg Value.bool (decide_eq_true (by omega)))) ?_
              refine hl_yg 16 35 false rfl rfl rfl rfl rfl (y_move rfl rfl) ?_
              refine hl_yg 19 38 true rfl rfl rfl rfl rfl (y_move rfl rfl) ?_
              refine hl_yg 19 38 true rfl rfl rfl rfl rfl (y_as (y_leqn (q := 65536) rfl rfl rfl ) (congrArg Value.bool (decide_eq_true (by omega)))) ?_
              refine hl_yg 16 35 false rfl rfl rfl rfl rfl (y_pick (b := true) rfl rfl rfl) ?_
              refine hl_y rfl rfl rfl (y_pick (b := false) rfl rfl rfl) ?_
              refine hl_nil ?_
              refine hq_then ?_
              refine hc_ifT rfl ?_
              refine hc_seq ?_
              refine hc_region ?_
              refine hl_i rfl rfl rfl (e_call0 rfl F46 rfl (fun w hw => law12_alive_ct w) rfl) ?_; intro _
              refine hl_y rfl rfl rfl (y_assign rfl rfl) ?_
              refine hl_nil ?_
              refine hq_then ?_
              refine hc_ret ?_
              exact hq_then_ret (hq_ret1 (()) rfl (rv_tmp rfl) rfl (fun _ h => Mm.pick h [] (by simp)))
            · skip
              refine hc_region ?_
              refine hl_y rfl rfl rfl (y_move rfl rfl) ?_
              refine hl_y rfl rfl rfl (y_lenE (kl.length) rfl rfl S22 rfl (rdF hk) (by first | rfl | simp only [ls_len, ns_len] | (simp only [ls_len, ns_len]; omega))) ?_
              refine hl_y rfl rfl rfl (y_as (y_gtrn (q := 100) rfl rfl rfl ) (congrArg Value.bool (decide_eq_false (by omega)))) ?_
              refine hl_y rfl rfl rfl (y_move rfl rfl) ?_
              refine hl_yg 3 22 false rfl rfl rfl rfl rfl (y_move rfl rfl) ?_
              refine hl_yg 3 22 false rfl rfl rfl rfl rfl (y_lenE (nl.length) rfl rfl S22 rfl (rdF hn) (by first | rfl | simp only [ls_len, ns_len] | (simp only [ls_len, ns_len]; omega))) ?_
              refine hl_yg 3 22 false rfl rfl rfl rfl rfl (y_as (y_gtrn (q := 100) rfl rfl rfl ) (congrArg Value.bool (decide_eq_false (by omega)))) ?_
              refine hl_y rfl rfl rfl (y_pick (b := false) rfl rfl rfl) ?_
              refine hl_y rfl rfl rfl (y_move rfl rfl) ?_
              refine hl_yg 8 27 false rfl rfl rfl rfl rfl (y_move rfl rfl) ?_
              refine hl_yg 8 27 false rfl rfl rfl rfl rfl (y_as (y_gtrn (q := 300) rfl rfl rfl ) (congrArg Value.bool (decide_eq_true (by omega)))) ?_
              refine hl_yg 8 27 false rfl rfl rfl rfl rfl (y_move rfl rfl) ?_
              refine hl_yg 11 30 true rfl rfl rfl rfl rfl (y_move rfl rfl) ?_
              refine hl_yg 11 30 true rfl rfl rfl rfl rfl (y_as (y_leqn (q := 65535) rfl rfl rfl ) (congrArg Value.bool (decide_eq_false (by omega)))) ?_
              refine hl_yg 8 27 false rfl rfl rfl rfl rfl (y_pick (b := true) rfl rfl rfl) ?_
              refine hl_y rfl rfl rfl (y_pick (b := false) rfl rfl rfl) ?_
              refine hl_y rfl rfl rfl (y_move rfl rfl) ?_
              refine hl_yg 16 35 false rfl rfl rfl rfl rfl (y_move rfl rfl) ?_
              refine hl_yg 16 35 false rfl rfl rfl rfl rfl (y_as (y_gtrn (q := 200) rfl rfl rfl ) (congrArg Value.bool (decide_eq_true (by omega)))) ?_
              refine hl_yg 16 35 false rfl rfl rfl rfl rfl (y_move rfl rfl) ?_
              refine hl_yg 19 38 true rfl rfl rfl rfl rfl (y_move rfl rfl) ?_
              refine hl_yg 19 38 true rfl rfl rfl rfl rfl (y_as (y_leqn (q := 65536) rfl rfl rfl ) (congrArg Value.bool (decide_eq_false (by omega)))) ?_
              refine hl_yg 16 35 false rfl rfl rfl rfl rfl (y_pick (b := true) rfl rfl rfl) ?_
              refine hl_y rfl rfl rfl (y_pick (b := false) rfl rfl rfl) ?_
              refine hl_nil ?_
              refine hq_then ?_
              refine hc_ifF rfl ?_
              refine hc_skip ?_
              refine hq_then ?_
              refine hc_seq ?_
              refine hc_region ?_
              refine hl_y rfl rfl rfl (y_move rfl rfl) ?_
              refine hl_y rfl rfl rfl (y_move rfl rfl) ?_
              refine hl_y rfl rfl rfl (y_move rfl rfl) ?_
              refine hl_i rfl rfl rfl (e_call0 rfl F47 rfl (fun w hw => ctr_At_ct _ _ _ _ n (by omega) w ((rdF hk) w hw) ((rdF hn) w hw)) rfl) ?_; intro _
              refine hl_y rfl rfl rfl (y_move rfl rfl) ?_
              refine hl_y rfl rfl rfl (y_extract rfl rfl rfl) ?_
              refine hl_y rfl rfl rfl (y_extract rfl rfl rfl) ?_
              refine hl_i rfl rfl rfl (e_alloc rfl Z41) ?_; intro g11
              refine hl_i0 rfl rfl (e_stw 0 rfl T41.2 rfl rfl rfl (ns_oneb _ _)) ?_; intro _
              refine hl_y rfl rfl rfl (y_assign rfl rfl) ?_
              refine hl_nil ?_
              refine hq_then ?_
              refine hc_seq ?_
              refine hc_region ?_
              refine hl_y rfl rfl rfl (y_move rfl rfl) ?_
              refine hl_y rfl rfl rfl (y_move rfl rfl) ?_
              refine hl_y rfl rfl rfl (y_move rfl rfl) ?_
              refine hl_i rfl rfl rfl (e_call0 rfl F48 rfl (fun w hw => r12_At_ct _ _ _ _ n (by omega) w ((rdF hk) w hw) ((rdF hn) w hw)) rfl) ?_; intro _
              refine hl_y rfl rfl rfl (y_move rfl rfl) ?_
              refine hl_y rfl rfl rfl (y_extract rfl rfl rfl) ?_
              refine hl_y rfl rfl rfl (y_extract rfl rfl rfl) ?_
              refine hl_i rfl rfl rfl (e_alloc rfl Z41) ?_; intro g13
              refine hl_i0 rfl rfl (e_stw 0 rfl T41.2 rfl rfl rfl (ns_oneb _ _)) ?_; intro _
              refine hl_y rfl rfl rfl (y_assign rfl rfl) ?_
              refine hl_nil ?_
              refine hq_then ?_
              refine hc_seq ?_
              refine hc_region ?_
              refine hl_y rfl rfl rfl (y_move rfl rfl) ?_
              refine hl_y rfl rfl rfl (y_move rfl rfl) ?_
              refine hl_y rfl rfl rfl (y_move rfl rfl) ?_
              refine hl_i rfl rfl rfl (e_call rfl F49 rfl (fun w hw => ctr_Stream_ct _ _ _ _ m (by omega) w ((rdF hk) w hw) ((rdF hn) w hw)) rfl) ?_; intro y62
              refine hl_y rfl rfl rfl (y_move rfl rfl) ?_
              refine hl_y rfl rfl rfl (y_extract rfl rfl rfl) ?_
              refine hl_y rfl rfl rfl (y_extract rfl rfl rfl) ?_
              refine hl_y rfl rfl rfl (y_assign rfl rfl) ?_
              refine hl_y rfl rfl rfl (y_assign rfl rfl) ?_
              refine hl_nil ?_
              refine hq_then ?_
              refine hc_seq ?_
              refine hc_region ?_
              refine hl_y rfl rfl rfl (y_move rfl rfl) ?_
              refine hl_y rfl rfl rfl (y_move rfl rfl) ?_
              refine hl_y rfl rfl rfl (y_move rfl rfl) ?_
              refine hl_i rfl rfl rfl (e_call rfl F50 rfl (fun w hw => r12_Stream_ct _ _ _ _ m (by omega) w ((rdF hk) w hw) ((rdF hn) w hw)) rfl) ?_; intro y69
              refine hl_y rfl rfl rfl (y_move rfl rfl) ?_
              refine hl_y rfl rfl rfl (y_extract rfl rfl rfl) ?_
              refine hl_y rfl rfl rfl (y_extract rfl rfl rfl) ?_
              refine hl_y rfl rfl rfl (y_assign rfl rfl) ?_
              refine hl_y rfl rfl rfl (y_assign rfl rfl) ?_
              refine hl_nil ?_
              refine hq_then ?_
              refine hc_seq ?_
              refine hc_drawP [0, 1, 2, 3, 4] follows_mixed ?_
              refine hh_y 0 rfl rfl rfl rfl (by kernel_rfl) (by kernel_rfl) (by kernel_rfl) (fun _ h => Mm.pick h [0, 1, 2, 3, 4] (by decide)) (y_ldw 4 rfl T41 rfl rfl) ?_
              refine hh_y 2 rfl rfl rfl rfl (by kernel_rfl) (by kernel_rfl) (by kernel_rfl) (fun _ h => Mm.pick h [0, 1, 2, 3, 4] (by decide)) (y_ldw 4 rfl T41 rfl rfl) ?_
              refine hh_i 1 rfl rfl rfl rfl (by kernel_rfl) (e_call0 rfl F51 rfl (fun w hw => ctr_Next_ct _ w) rfl) (fun _ _ h => Mm.pick h [0, 1, 2, 3, 4] (by decide)) ?_; intro _
              refine hh_i 3 rfl rfl rfl rfl (by kernel_rfl) (e_call0 rfl F52 rfl (fun w hw => r12_Next_ct _ w) rfl) (fun _ _ h => Mm.pick h [0, 1, 2, 3, 4] (by decide)) ?_; intro _
              refine hh_y 4 rfl rfl rfl rfl (by kernel_rfl) (by kernel_rfl) (by kernel_rfl) (fun _ h => Mm.pick h [0, 1, 2, 3, 4] (by decide)) (y_as (y_eqlarr Q41 rfl rfl rfl) (congrArg Value.bool (eqn_true (fun _ _ => rfl)))) ?_
              refine hh_y 5 rfl rfl rfl rfl (by kernel_rfl) (by kernel_rfl) (by kernel_rfl) (fun _ h => Mm.pick h [0, 1, 2, 3, 4] (by decide)) (y_move rfl rfl) ?_
              refine hh_yg 6 5 77 true rfl rfl rfl rfl rfl rfl (by kernel_rfl) (by kernel_rfl) (by kernel_rfl) (fun _ h => Mm.pick h [0, 1, 2, 3, 4] (by decide)) (y_ldw 3 rfl T41 rfl rfl) ?_
              refine hh_yg 7 5 77 true rfl rfl rfl rfl rfl rfl (by kernel_rfl) (by kernel_rfl) (by kernel_rfl) (fun _ h => Mm.pick h [0, 1, 2, 3, 4] (by decide)) (y_ldw 2 rfl T41 rfl rfl) ?_
              refine hh_yg 8 5 77 true rfl rfl rfl rfl rfl rfl (by kernel_rfl) (by kernel_rfl) (by kernel_rfl) (fun _ h => Mm.pick h [0, 1, 2, 3, 4] (by decide)) (y_as (y_eqlarr Q41 rfl rfl rfl) (congrArg Value.bool (eqn_true (at_eq kl nl n)))) ?_
              refine hh_y 9 rfl rfl rfl rfl (by kernel_rfl) (by kernel_rfl) (by kernel_rfl) (fun _ h => Mm.pick h [0, 1, 2, 3, 4] (by decide)) (y_pick (b := true) rfl rfl rfl) ?_
              refine hh_y 10 rfl rfl rfl rfl (by kernel_rfl) (by kernel_rfl) (by kernel_rfl) (fun _ h => Mm.pick h [0, 1, 2, 3, 4] (by decide)) (y_move rfl rfl) ?_
              refine hh_yg 11 10 82 true rfl rfl rfl rfl rfl rfl (by kernel_rfl) (by kernel_rfl) (by kernel_rfl) (fun _ h => Mm.pick h [0, 1, 2, 3, 4] (by decide)) (y_move rfl rfl) ?_
              refine hh_yg 12 10 82 true rfl rfl rfl rfl rfl rfl (by kernel_rfl) (by kernel_rfl) (by kernel_rfl) (fun _ h => Mm.pick h [0, 1, 2, 3, 4] (by decide)) (y_move rfl rfl) ?_
              refine hh_yg 13 10 82 true rfl rfl rfl rfl rfl rfl (by kernel_rfl) (by kernel_rfl) (by kernel_rfl) (fun _ h => Mm.pick h [0, 1, 2, 3, 4] (by decide)) (y_as (y_eqln rfl rfl rfl ) (congrArg Value.bool (decide_eq_true (atF_eq kl nl n)))) ?_
              refine hh_y 14 rfl rfl rfl rfl (by kernel_rfl) (by kernel_rfl) (by kernel_rfl) (fun _ h => Mm.pick h [0, 1, 2, 3, 4] (by decide)) (y_pick (b := true) rfl rfl rfl) ?_
              refine hh_y 15 rfl rfl rfl rfl (by kernel_rfl) (by kernel_rfl) (by kernel_rfl) (fun _ h => Mm.pick h [0, 1, 2, 3, 4] (by decide)) (y_move rfl rfl) ?_
              refine hh_yg 16 15 87 true rfl rfl rfl rfl rfl rfl (by kernel_rfl) (by kernel_rfl) (by kernel_rfl) (fun _ h => Mm.pick h [0, 1, 2, 3, 4] (by decide)) (y_move rfl rfl) ?_
              refine hh_yg 17 15 87 true rfl rfl rfl rfl rfl rfl (by kernel_rfl) (by kernel_rfl) (by kernel_rfl) (fun _ h => Mm.pick h [0, 1, 2, 3, 4] (by decide)) (y_move rfl rfl) ?_
              refine hh_ig 18 15 87 true rfl rfl rfl rfl rfl rfl (by kernel_rfl) (e_call0 rfl F32 rfl (fun w hw => r01_Same_t _ _ _ _ w ((rdR3 1 rfl (strN_le _ _ _)) w hw) ((rdR2 0 rfl (strNR_le _ _ _)) w hw) (str_hm (by omega)) (str_eq kl nl m)) rfl) (fun _ _ h => Mm.pick h [0, 1, 2, 3, 4] (by decide)) ?_; intro _
              refine hh_y 19 rfl rfl rfl rfl (by kernel_rfl) (by kernel_rfl) (by kernel_rfl) (fun _ h => Mm.pick h [0, 1, 2, 3, 4] (by decide)) (y_pick (b := true) rfl rfl rfl) ?_
              refine hh_y 20 rfl rfl rfl rfl (by kernel_rfl) (by kernel_rfl) (by kernel_rfl) (fun _ h => Mm.pick h [0, 1, 2, 3, 4] (by decide)) (y_move rfl rfl) ?_
              refine hh_yg 21 20 92 true rfl rfl rfl rfl rfl rfl (by kernel_rfl) (by kernel_rfl) (by kernel_rfl) (fun _ h => Mm.pick h [0, 1, 2, 3, 4] (by decide)) (y_move rfl rfl) ?_
              refine hh_yg 22 20 92 true rfl rfl rfl rfl rfl rfl (by kernel_rfl) (by kernel_rfl) (by kernel_rfl) (fun _ h => Mm.pick h [0, 1, 2, 3, 4] (by decide)) (y_move rfl rfl) ?_
              refine hh_yg 23 20 92 true rfl rfl rfl rfl rfl rfl (by kernel_rfl) (by kernel_rfl) (by kernel_rfl) (fun _ h => Mm.pick h [0, 1, 2, 3, 4] (by decide)) (y_as (y_eqln rfl rfl rfl ) (congrArg Value.bool (decide_eq_true (strF_eq kl nl m)))) ?_
              refine hh_y 24 rfl rfl rfl rfl (by kernel_rfl) (by kernel_rfl) (by kernel_rfl) (fun _ h => Mm.pick h [0, 1, 2, 3, 4] (by decide)) (y_pick (b := true) rfl rfl rfl) ?_
              refine hh_y 25 rfl rfl rfl rfl (by kernel_rfl) (by kernel_rfl) (by kernel_rfl) (fun _ h => Mm.pick h [0, 1, 2, 3, 4] (by decide)) (y_move rfl rfl) ?_
              refine hh_ig 26 25 97 true rfl rfl rfl rfl rfl rfl (by kernel_rfl) (e_call0 rfl F46 rfl (fun w hw => law12_alive_ct w) rfl) (fun _ _ h => Mm.pick h [0, 1, 2, 3, 4] (by decide)) ?_; intro _
              refine hh_y 27 rfl rfl rfl rfl (by kernel_rfl) (by kernel_rfl) (by kernel_rfl) (fun _ h => Mm.pick h [0, 1, 2, 3, 4] (by decide)) (y_pick (b := true) rfl rfl rfl) ?_
              refine hh_y 28 rfl rfl rfl rfl (by kernel_rfl) (by kernel_rfl) (by kernel_rfl) (fun _ h => Mm.pick h [0, 1, 2, 3, 4] (by decide)) (y_assign rfl rfl) ?_
              refine hh_done (by kernel_rfl) ?_
              refine hq_then ?_
              refine hc_ret ?_
              exact hq_ret1 (()) rfl (rv_tmp rfl) rfl (fun _ h => Mm.pick h [] (by simp))
          · skip
            refine hc_region ?_
            refine hl_y rfl rfl rfl (y_move rfl rfl) ?_
            refine hl_y rfl rfl rfl (y_lenE (kl.length) rfl rfl S22 rfl (rdF hk) (by first | rfl | simp only [ls_len, ns_len] | (simp only [ls_len, ns_len]; omega))) ?_
            refine hl_y rfl rfl rfl (y_as (y_gtrn (q := 100) rfl rfl rfl ) (congrArg Value.bool (decide_eq_false (by omega)))) ?_
            refine hl_y rfl rfl rfl (y_move rfl rfl) ?_
            refine hl_yg 3 22 false rfl rfl rfl rfl rfl (y_move rfl rfl) ?_
            refine hl_yg 3 22 false rfl rfl rfl rfl rfl (y_lenE (nl.length) rfl rfl S22 rfl (rdF hn) (by first | rfl | simp only [ls_len, ns_len] | (simp only [ls_len, ns_len]; omega))) ?_
            refine hl_yg 3 22 false rfl rfl rfl rfl rfl (y_as (y_gtrn (q := 100) rfl rfl rfl ) (congrArg Value.bool (decide_eq_false (by omega)))) ?_
            refine hl_y rfl rfl rfl (y_pick (b := false) rfl rfl rfl) ?_
            refine hl_y rfl rfl rfl (y_move rfl rfl) ?_
            refine hl_yg 8 27 false rfl rfl rfl rfl rfl (y_move rfl rfl) ?_
            refine hl_yg 8 27 false rfl rfl rfl rfl rfl (y_as (y_gtrn (q := 300) rfl rfl rfl ) (congrArg Value.bool (decide_eq_true (by omega)))) ?_
            refine hl_yg 8 27 false rfl rfl rfl rfl rfl (y_move rfl rfl) ?_
            refine hl_yg 11 30 true rfl rfl rfl rfl rfl (y_move rfl rfl) ?_
            refine hl_yg 11 30 true rfl rfl rfl rfl rfl (y_as (y_leqn (q := 65535) rfl rfl rfl ) (congrArg Value.bool (decide_eq_false (by omega)))) ?_
            refine hl_yg 8 27 false rfl rfl rfl rfl rfl (y_pick (b := true) rfl rfl rfl) ?_
            refine hl_y rfl rfl rfl (y_pick (b := false) rfl rfl rfl) ?_
            refine hl_y rfl rfl rfl (y_move rfl rfl) ?_
            refine hl_yg 16 35 false rfl rfl rfl rfl rfl (y_move rfl rfl) ?_
            refine hl_yg 16 35 false rfl rfl rfl rfl rfl (y_as (y_gtrn (q := 200) rfl rfl rfl ) (congrArg Value.bool (decide_eq_false (by omega)))) ?_
            refine hl_yg 16 35 false rfl rfl rfl rfl rfl (y_move rfl rfl) ?_
            refine hl_no 19 38 true false rfl rfl rfl rfl rfl rfl ?_
            refine hl_no 19 38 true false rfl rfl rfl rfl rfl rfl ?_
            refine hl_yg 16 35 false rfl rfl rfl rfl rfl (y_pick (b := false) rfl rfl rfl) ?_
            refine hl_y rfl rfl rfl (y_pick (b := false) rfl rfl rfl) ?_
            refine hl_nil ?_
            refine hq_then ?_
            refine hc_ifF rfl ?_
            refine hc_skip ?_
            refine hq_then ?_
            refine hc_seq ?_
            refine hc_region ?_
            refine hl_y rfl rfl rfl (y_move rfl rfl) ?_
            refine hl_y rfl rfl rfl (y_move rfl rfl) ?_
            refine hl_y rfl rfl rfl (y_move rfl rfl) ?_
            refine hl_i rfl rfl rfl (e_call0 rfl F47 rfl (fun w hw => ctr_At_ct _ _ _ _ n (by omega) w ((rdF hk) w hw) ((rdF hn) w hw)) rfl) ?_; intro _
            refine hl_y rfl rfl rfl (y_move rfl rfl) ?_
            refine hl_y rfl rfl rfl (y_extract rfl rfl rfl) ?_
            refine hl_y rfl rfl rfl (y_extract rfl rfl rfl) ?_
            refine hl_i rfl rfl rfl (e_alloc rfl Z41) ?_; intro g11
            refine hl_i0 rfl rfl (e_stw 0 rfl T41.2 rfl rfl rfl (ns_oneb _ _)) ?_; intro _
            refine hl_y rfl rfl rfl (y_assign rfl rfl) ?_
            refine hl_nil ?_
            refine hq_then ?_
            refine hc_seq ?_
            refine hc_region ?_
            refine hl_y rfl rfl rfl (y_move rfl rfl) ?_
            refine hl_y rfl rfl rfl (y_move rfl rfl) ?_
            refine hl_y rfl rfl rfl (y_move rfl rfl) ?_
            refine hl_i rfl rfl rfl (e_call0 rfl F48 rfl (fun w hw => r12_At_ct _ _ _ _ n (by omega) w ((rdF hk) w hw) ((rdF hn) w hw)) rfl) ?_; intro _
            refine hl_y rfl rfl rfl (y_move rfl rfl) ?_
            refine hl_y rfl rfl rfl (y_extract rfl rfl rfl) ?_
            refine hl_y rfl rfl rfl (y_extract rfl rfl rfl) ?_
            refine hl_i rfl rfl rfl (e_alloc rfl Z41) ?_; intro g13
            refine hl_i0 rfl rfl (e_stw 0 rfl T41.2 rfl rfl rfl (ns_oneb _ _)) ?_; intro _
            refine hl_y rfl rfl rfl (y_assign rfl rfl) ?_
            refine hl_nil ?_
            refine hq_then ?_
            refine hc_seq ?_
            refine hc_region ?_
            refine hl_y rfl rfl rfl (y_move rfl rfl) ?_
            refine hl_y rfl rfl rfl (y_move rfl rfl) ?_
            refine hl_y rfl rfl rfl (y_move rfl rfl) ?_
            refine hl_i rfl rfl rfl (e_call rfl F49 rfl (fun w hw => ctr_Stream_ct _ _ _ _ m (by omega) w ((rdF hk) w hw) ((rdF hn) w hw)) rfl) ?_; intro y62
            refine hl_y rfl rfl rfl (y_move rfl rfl) ?_
            refine hl_y rfl rfl rfl (y_extract rfl rfl rfl) ?_
            refine hl_y rfl rfl rfl (y_extract rfl rfl rfl) ?_
            refine hl_y rfl rfl rfl (y_assign rfl rfl) ?_
            refine hl_y rfl rfl rfl (y_assign rfl rfl) ?_
            refine hl_nil ?_
            refine hq_then ?_
            refine hc_seq ?_
            refine hc_region ?_
            refine hl_y rfl rfl rfl (y_move rfl rfl) ?_
            refine hl_y rfl rfl rfl (y_move rfl rfl) ?_
            refine hl_y rfl rfl rfl (y_move rfl rfl) ?_
            refine hl_i rfl rfl rfl (e_call rfl F50 rfl (fun w hw => r12_Stream_ct _ _ _ _ m (by omega) w ((rdF hk) w hw) ((rdF hn) w hw)) rfl) ?_; intro y69
            refine hl_y rfl rfl rfl (y_move rfl rfl) ?_
            refine hl_y rfl rfl rfl (y_extract rfl rfl rfl) ?_
            refine hl_y rfl rfl rfl (y_extract rfl rfl rfl) ?_
            refine hl_y rfl rfl rfl (y_assign rfl rfl) ?_
            refine hl_y rfl rfl rfl (y_assign rfl rfl) ?_
            refine hl_nil ?_
            refine hq_then ?_
            refine hc_seq ?_
            refine hc_drawP [0, 1, 2, 3, 4] follows_mixed ?_
            refine hh_y 0 rfl rfl rfl rfl (by kernel_rfl) (by kernel_rfl) (by kernel_rfl) (fun _ h => Mm.pick h [0, 1, 2, 3, 4] (by decide)) (y_ldw 4 rfl T41 rfl rfl) ?_
            refine hh_y 2 rfl rfl rfl rfl (by kernel_rfl) (by kernel_rfl) (by kernel_rfl) (fun _ h => Mm.pick h [0, 1, 2, 3, 4] (by decide)) (y_ldw 4 rfl T41 rfl rfl) ?_
            refine hh_i 1 rfl rfl rfl rfl (by kernel_rfl) (e_call0 rfl F51 rfl (fun w hw => ctr_Next_ct _ w) rfl) (fun _ _ h => Mm.pick h [0, 1, 2, 3, 4] (by decide)) ?_; intro _
            refine hh_i 3 rfl rfl rfl rfl (by kernel_rfl) (e_call0 rfl F52 rfl (fun w hw => r12_Next_ct _ w) rfl) (fun _ _ h => Mm.pick h [0, 1, 2, 3, 4] (by decide)) ?_; intro _
            refine hh_y 4 rfl rfl rfl rfl (by kernel_rfl) (by kernel_rfl) (by kernel_rfl) (fun _ h => Mm.pick h [0, 1, 2, 3, 4] (by decide)) (y_as (y_eqlarr Q41 rfl rfl rfl) (congrArg Value.bool (eqn_true (fun _ _ => rfl)))) ?_
            refine hh_y 5 rfl rfl rfl rfl (by kernel_rfl) (by kernel_rfl) (by kernel_rfl) (fun _ h => Mm.pick h [0, 1, 2, 3, 4] (by decide)) (y_move rfl rfl) ?_
            refine hh_yg 6 5 77 true rfl rfl rfl rfl rfl rfl (by kernel_rfl) (by kernel_rfl) (by kernel_rfl) (fun _ h => Mm.pick h [0, 1, 2, 3, 4] (by decide)) (y_ldw 3 rfl T41 rfl rfl) ?_
            refine hh_yg 7 5 77 true rfl rfl rfl rfl rfl rfl (by kernel_rfl) (by kernel_rfl) (by kernel_rfl) (fun _ h => Mm.pick h [0, 1, 2, 3, 4] (by decide)) (y_ldw 2 rfl T41 rfl rfl) ?_
            refine hh_yg 8 5 77 true rfl rfl rfl rfl rfl rfl (by kernel_rfl) (by kernel_rfl) (by kernel_rfl) (fun _ h => Mm.pick h [0, 1, 2, 3, 4] (by decide)) (y_as (y_eqlarr Q41 rfl rfl rfl) (congrArg Value.bool (eqn_true (at_eq kl nl n)))) ?_
            refine hh_y 9 rfl rfl rfl rfl (by kernel_rfl) (by kernel_rfl) (by kernel_rfl) (fun _ h => Mm.pick h [0, 1, 2, 3, 4] (by decide)) (y_pick (b := true) rfl rfl rfl) ?_
            refine hh_y 10 rfl rfl rfl rfl (by kernel_rfl) (by kernel_rfl) (by kernel_rfl) (fun _ h => Mm.pick h [0, 1, 2, 3, 4] (by decide)) (y_move rfl rfl) ?_
            refine hh_yg 11 10 82 true rfl rfl rfl rfl rfl rfl (by kernel_rfl) (by kernel_rfl) (by kernel_rfl) (fun _ h => Mm.pick h [0, 1, 2, 3, 4] (by decide)) (y_move rfl rfl) ?_
            refine hh_yg 12 10 82 true rfl rfl rfl rfl rfl rfl (by kernel_rfl) (by kernel_rfl) (by kernel_rfl) (fun _ h => Mm.pick h [0, 1, 2, 3, 4] (by decide)) (y_move rfl rfl) ?_
            refine hh_yg 13 10 82 true rfl rfl rfl rfl rfl rfl (by kernel_rfl) (by kernel_rfl) (by kernel_rfl) (fun _ h => Mm.pick h [0, 1, 2, 3, 4] (by decide)) (y_as (y_eqln rfl rfl rfl ) (congrArg Value.bool (decide_eq_true (atF_eq kl nl n)))) ?_
            refine hh_y 14 rfl rfl rfl rfl (by kernel_rfl) (by kernel_rfl) (by kernel_rfl) (fun _ h => Mm.pick h [0, 1, 2, 3, 4] (by decide)) (y_pick (b := true) rfl rfl rfl) ?_
            refine hh_y 15 rfl rfl rfl rfl (by kernel_rfl) (by kernel_rfl) (by kernel_rfl) (fun _ h => Mm.pick h [0, 1, 2, 3, 4] (by decide)) (y_move rfl rfl) ?_
            refine hh_yg 16 15 87 true rfl rfl rfl rfl rfl rfl (by kernel_rfl) (by kernel_rfl) (by kernel_rfl) (fun _ h => Mm.pick h [0, 1, 2, 3, 4] (by decide)) (y_move rfl rfl) ?_
            refine hh_yg 17 15 87 true rfl rfl rfl rfl rfl rfl (by kernel_rfl) (by kernel_rfl) (by kernel_rfl) (fun _ h => Mm.pick h [0, 1, 2, 3, 4] (by decide)) (y_move rfl rfl) ?_
            refine hh_ig 18 15 87 true rfl rfl rfl rfl rfl rfl (by kernel_rfl) (e_call0 rfl F32 rfl (fun w hw => r01_Same_t _ _ _ _ w ((rdR3 1 rfl (strN_le _ _ _)) w hw) ((rdR2 0 rfl (strNR_le _ _ _)) w hw) (str_hm (by omega)) (str_eq kl nl m)) rfl) (fun _ _ h => Mm.pick h [0, 1, 2, 3, 4] (by decide)) ?_; intro _
            refine hh_y 19 rfl rfl rfl rfl (by kernel_rfl) (by kernel_rfl) (by kernel_rfl) (fun _ h => Mm.pick h [0, 1, 2, 3, 4] (by decide)) (y_pick (b := true) rfl rfl rfl) ?_
            refine hh_y 20 rfl rfl rfl rfl (by kernel_rfl) (by kernel_rfl) (by kernel_rfl) (fun _ h => Mm.pick h [0, 1, 2, 3, 4] (by decide)) (y_move rfl rfl) ?_
            refine hh_yg 21 20 92 true rfl rfl rfl rfl rfl rfl (by kernel_rfl) (by kernel_rfl) (by kernel_rfl) (fun _ h => Mm.pick h [0, 1, 2, 3, 4] (by decide)) (y_move rfl rfl) ?_
            refine hh_yg 22 20 92 true rfl rfl rfl rfl rfl rfl (by kernel_rfl) (by kernel_rfl) (by kernel_rfl) (fun _ h => Mm.pick h [0, 1, 2, 3, 4] (by decide)) (y_move rfl rfl) ?_
            refine hh_yg 23 20 92 true rfl rfl rfl rfl rfl rfl (by kernel_rfl) (by kernel_rfl) (by kernel_rfl) (fun _ h => Mm.pick h [0, 1, 2, 3, 4] (by decide)) (y_as (y_eqln rfl rfl rfl ) (congrArg Value.bool (decide_eq_true (strF_eq kl nl m)))) ?_
            refine hh_y 24 rfl rfl rfl rfl (by kernel_rfl) (by kernel_rfl) (by kernel_rfl) (fun _ h => Mm.pick h [0, 1, 2, 3, 4] (by decide)) (y_pick (b := true) rfl rfl rfl) ?_
            refine hh_y 25 rfl rfl rfl rfl (by kernel_rfl) (by kernel_rfl) (by kernel_rfl) (fun _ h => Mm.pick h [0, 1, 2, 3, 4] (by decide)) (y_move rfl rfl) ?_
            refine hh_ig 26 25 97 true rfl rfl rfl rfl rfl rfl (by kernel_rfl) (e_call0 rfl F46 rfl (fun w hw => law12_alive_ct w) rfl) (fun _ _ h => Mm.pick h [0, 1, 2, 3, 4] (by decide)) ?_; intro _
            refine hh_y 27 rfl rfl rfl rfl (by kernel_rfl) (by kernel_rfl) (by kernel_rfl) (fun _ h => Mm.pick h [0, 1, 2, 3, 4] (by decide)) (y_pick (b := true) rfl rfl rfl) ?_
            refine hh_y 28 rfl rfl rfl rfl (by kernel_rfl) (by kernel_rfl) (by kernel_rfl) (fun _ h => Mm.pick h [0, 1, 2, 3, 4] (by decide)) (y_assign rfl rfl) ?_
            refine hh_done (by kernel_rfl) ?_
            refine hq_then ?_
            refine hc_ret ?_
            exact hq_ret1 (()) rfl (rv_tmp rfl) rfl (fun _ h => Mm.pick h [] (by simp))
      · skip
        rcases Decidable.em (200 < m) with k4 | k4
        · skip
          rcases Decidable.em (m ≤ 65536) with k5 | k5
          · skip
            refine hc_region ?_
            refine hl_y rfl rfl rfl (y_move rfl rfl) ?_
            refine hl_y rfl rfl rfl (y_lenE (kl.length) rfl rfl S22 rfl (rdF hk) (by first | rfl | simp only [ls_len, ns_len] | (simp only [ls_len, ns_len]; omega))) ?_
            refine hl_y rfl rfl rfl (y_as (y_gtrn (q := 100) rfl rfl rfl ) (congrArg Value.bool (decide_eq_false (by omega)))) ?_
            refine hl_y rfl rfl rfl (y_move rfl rfl) ?_
            refine hl_yg 3 22 false rfl rfl rfl rfl rfl (y_move rfl rfl) ?_
            refine hl_yg 3 22 false rfl rfl rfl rfl rfl (y_lenE (nl.length) rfl rfl S22 rfl (rdF hn) (by first | rfl | simp only [ls_len, ns_len] | (simp only [ls_len, ns_len]; omega))) ?_
            refine hl_yg 3 22 false rfl rfl rfl rfl rfl (y_as (y_gtrn (q := 100) rfl rfl rfl ) (congrArg Value.bool (decide_eq_false (by omega)))) ?_
            refine hl_y rfl rfl rfl (y_pick (b := false) rfl rfl rfl) ?_
            refine hl_y rfl rfl rfl (y_move rfl rfl) ?_
            refine hl_yg 8 27 false rfl rfl rfl rfl rfl (y_move rfl rfl) ?_
            refine hl_yg 8 27 false rfl rfl rfl rfl rfl (y_as (y_gtrn (q := 300) rfl rfl rfl ) (congrArg Value.bool (decide_eq_false (by omega)))) ?_
            refine hl_yg 8 27 false rfl rfl rfl rfl rfl (y_move rfl rfl) ?_
            refine hl_no 11 30 true false rfl rfl rfl rfl rfl rfl ?_
            refine hl_no 11 30 true false rfl rfl rfl rfl rfl rfl ?_
            refine hl_yg 8 27 false rfl rfl rfl rfl rfl (y_pick (b := false) rfl rfl rfl) ?_
            refine hl_y rfl rfl rfl (y_pick (b := false) rfl rfl rfl) ?_
            refine hl_y rfl rfl rfl (y_move rfl rfl) ?_
            refine hl_yg 16 35 false rfl rfl rfl rfl rfl (y_move rfl rfl) ?_
            refine hl_yg 16 35 false rfl rfl rfl rfl rfl (y_as (y_gtrn (q := 200) rfl rfl rfl ) (congrArg Value.bool (decide_eq_true (by omega)))) ?_
            refine hl_yg 16 35 false rfl rfl rfl rfl rfl (y_move rfl rfl) ?_
            refine hl_yg 19 38 true rfl rfl rfl rfl rfl (y_move rfl rfl) ?_
            refine hl_yg 19 38 true rfl rfl rfl rfl rfl (y_as (y_leqn (q := 65536) rfl rfl rfl ) (congrArg Value.bool (decide_eq_true (by omega)))) ?_
            refine hl_yg 16 35 false rfl rfl rfl rfl rfl (y_pick (b := true) rfl rfl rfl) ?_
            refine hl_y rfl rfl rfl (y_pick (b := false) rfl rfl rfl) ?_
            refine hl_nil ?_
            refine hq_then ?_
            refine hc_ifT rfl ?_
            refine hc_seq ?_
            refine hc_region ?_
            refine hl_i rfl rfl rfl (e_call0 rfl F46 rfl (fun w hw => law12_alive_ct w) rfl) ?_; intro _
            refine hl_y rfl rfl rfl (y_assign rfl rfl) ?_
            refine hl_nil ?_
            refine hq_then ?_
            refine hc_ret ?_
            exact hq_then_ret (hq_ret1 (()) rfl (rv_tmp rfl) rfl (fun _ h => Mm.pick h [] (by simp)))
          · skip
            refine hc_region ?_
            refine hl_y rfl rfl rfl (y_move rfl rfl) ?_
            refine hl_y rfl rfl rfl (y_lenE (kl.length) rfl rfl S22 rfl (rdF hk) (by first | rfl | simp only [ls_len, ns_len] | (simp only [ls_len, ns_len]; omega))) ?_
            refine hl_y rfl rfl rfl (y_as (y_gtrn (q := 100) rfl rfl rfl ) (congrArg Value.bool (decide_eq_false (by omega)))) ?_
            refine hl_y rfl rfl rfl (y_move rfl rfl) ?_
            refine hl_yg 3 22 false rfl rfl rfl rfl rfl (y_move rfl rfl) ?_
            refine hl_yg 3 22 false rfl rfl rfl rfl rfl (y_lenE (nl.length) rfl rfl S22 rfl (rdF hn) (by first | rfl | simp only [ls_len, ns_len] | (simp only [ls_len, ns_len]; omega))) ?_
            refine hl_yg 3 22 false rfl rfl rfl rfl rfl (y_as (y_gtrn (q := 100) rfl rfl rfl ) (congrArg Value.bool (decide_eq_false (by omega)))) ?_
            refine hl_y rfl rfl rfl (y_pick (b := false) rfl rfl rfl) ?_
            refine hl_y rfl rfl rfl (y_move rfl rfl) ?_
            refine hl_yg 8 27 false rfl rfl rfl rfl rfl (y_move rfl rfl) ?_
            refine hl_yg 8 27 false rfl rfl rfl rfl rfl (y_as (y_gtrn (q := 300) rfl rfl rfl ) (congrArg Value.bool (decide_eq_false (by omega)))) ?_
            refine hl_yg 8 27 false rfl rfl rfl rfl rfl (y_move rfl rfl) ?_
            refine hl_no 11 30 true false rfl rfl rfl rfl rfl rfl ?_
            refine hl_no 11 30 true false rfl rfl rfl rfl rfl rfl ?_
            refine hl_yg 8 27 false rfl rfl rfl rfl rfl (y_pick (b := false) rfl rfl rfl) ?_
            refine hl_y rfl rfl rfl (y_pick (b := false) rfl rfl rfl) ?_
            refine hl_y rfl rfl rfl (y_move rfl rfl) ?_
            refine hl_yg 16 35 false rfl rfl rfl rfl rfl (y_move rfl rfl) ?_
            refine hl_yg 16 35 false rfl rfl rfl rfl rfl (y_as (y_gtrn (q := 200) rfl rfl rfl ) (congrArg Value.bool (decide_eq_true (by omega)))) ?_
            refine hl_yg 16 35 false rfl rfl rfl rfl rfl (y_move rfl rfl) ?_
            refine hl_yg 19 38 true rfl rfl rfl rfl rfl (y_move rfl rfl) ?_
            refine hl_yg 19 38 true rfl rfl rfl rfl rfl (y_as (y_leqn (q := 65536) rfl rfl rfl ) (congrArg Value.bool (decide_eq_false (by omega)))) ?_
            refine hl_yg 16 35 false rfl rfl rfl rfl rfl (y_pick (b := true) rfl rfl rfl) ?_
            refine hl_y rfl rfl rfl (y_pick (b := false) rfl rfl rfl) ?_
            refine hl_nil ?_
            refine hq_then ?_
            refine hc_ifF rfl ?_
            refine hc_skip ?_
            refine hq_then ?_
            refine hc_seq ?_
            refine hc_region ?_
            refine hl_y rfl rfl rfl (y_move rfl rfl) ?_
            refine hl_y rfl rfl rfl (y_move rfl rfl) ?_
            refine hl_y rfl rfl rfl (y_move rfl rfl) ?_
            refine hl_i rfl rfl rfl (e_call0 rfl F47 rfl (fun w hw => ctr_At_ct _ _ _ _ n (by omega) w ((rdF hk) w hw) ((rdF hn) w hw)) rfl) ?_; intro _
            refine hl_y rfl rfl rfl (y_move rfl rfl) ?_
            refine hl_y rfl rfl rfl (y_extract rfl rfl rfl) ?_
            refine hl_y rfl rfl rfl (y_extract rfl rfl rfl) ?_
            refine hl_i rfl rfl rfl (e_alloc rfl Z41) ?_; intro g11
            refine hl_i0 rfl rfl (e_stw 0 rfl T41.2 rfl rfl rfl (ns_oneb _ _)) ?_; intro _
            refine hl_y rfl rfl rfl (y_assign rfl rfl) ?_
            refine hl_nil ?_
            refine hq_then ?_
            refine hc_seq ?_
            refine hc_region ?_
            refine hl_y rfl rfl rfl (y_move rfl rfl) ?_
            refine hl_y rfl rfl rfl (y_move rfl rfl) ?_
            refine hl_y rfl rfl rfl (y_move rfl rfl) ?_
            refine hl_i rfl rfl rfl (e_call0 rfl F48 rfl (fun w hw => r12_At_ct _ _ _ _ n (by omega) w ((rdF hk) w hw) ((rdF hn) w hw)) rfl) ?_; intro _
            refine hl_y rfl rfl rfl (y_move rfl rfl) ?_
            refine hl_y rfl rfl rfl (y_extract rfl rfl rfl) ?_
            refine hl_y rfl rfl rfl (y_extract rfl rfl rfl) ?_
            refine hl_i rfl rfl rfl (e_alloc rfl Z41) ?_; intro g13
            refine hl_i0 rfl rfl (e_stw 0 rfl T41.2 rfl rfl rfl (ns_oneb _ _)) ?_; intro _
            refine hl_y rfl rfl rfl (y_assign rfl rfl) ?_
            refine hl_nil ?_
            refine hq_then ?_
            refine hc_seq ?_
            refine hc_region ?_
            refine hl_y rfl rfl rfl (y_move rfl rfl) ?_
            refine hl_y rfl rfl rfl (y_move rfl rfl) ?_
            refine hl_y rfl rfl rfl (y_move rfl rfl) ?_
            refine hl_i rfl rfl rfl (e_call rfl F49 rfl (fun w hw => ctr_Stream_ct _ _ _ _ m (by omega) w ((rdF hk) w hw) ((rdF hn) w hw)) rfl) ?_; intro y62
            refine hl_y rfl rfl rfl (y_move rfl rfl) ?_
            refine hl_y rfl rfl rfl (y_extract rfl rfl rfl) ?_
            refine hl_y rfl rfl rfl (y_extract rfl rfl rfl) ?_
            refine hl_y rfl rfl rfl (y_assign rfl rfl) ?_
            refine hl_y rfl rfl rfl (y_assign rfl rfl) ?_
            refine hl_nil ?_
            refine hq_then ?_
            refine hc_seq ?_
            refine hc_region ?_
            refine hl_y rfl rfl rfl (y_move rfl rfl) ?_
            refine hl_y rfl rfl rfl (y_move rfl rfl) ?_
            refine hl_y rfl rfl rfl (y_move rfl rfl) ?_
            refine hl_i rfl rfl rfl (e_call rfl F50 rfl (fun w hw => r12_Stream_ct _ _ _ _ m (by omega) w ((rdF hk) w hw) ((rdF hn) w hw)) rfl) ?_; intro y69
            refine hl_y rfl rfl rfl (y_move rfl rfl) ?_
            refine hl_y rfl rfl rfl (y_extract rfl rfl rfl) ?_
            refine hl_y rfl rfl rfl (y_extract rfl rfl rfl) ?_
            refine hl_y rfl rfl rfl (y_assign rfl rfl) ?_
            refine hl_y rfl rfl rfl (y_assign rfl rfl) ?_
            refine hl_nil ?_
            refine hq_then ?_
            refine hc_seq ?_
            refine hc_drawP [0, 1, 2, 3, 4] follows_mixed ?_
            refine hh_y 0 rfl rfl rfl rfl (by kernel_rfl) (by kernel_rfl) (by kernel_rfl) (fun _ h => Mm.pick h [0, 1, 2, 3, 4] (by decide)) (y_ldw 4 rfl T41 rfl rfl) ?_
            refine hh_y 2 rfl rfl rfl rfl (by kernel_rfl) (by kernel_rfl) (by kernel_rfl) (fun _ h => Mm.pick h [0, 1, 2, 3, 4] (by decide)) (y_ldw 4 rfl T41 rfl rfl) ?_
            refine hh_i 1 rfl rfl rfl rfl (by kernel_rfl) (e_call0 rfl F51 rfl (fun w hw => ctr_Next_ct _ w) rfl) (fun _ _ h => Mm.pick h [0, 1, 2, 3, 4] (by decide)) ?_; intro _
            refine hh_i 3 rfl rfl rfl rfl (by kernel_rfl) (e_call0 rfl F52 rfl (fun w hw => r12_Next_ct _ w) rfl) (fun _ _ h => Mm.pick h [0, 1, 2, 3, 4] (by decide)) ?_; intro _
            refine hh_y 4 rfl rfl rfl rfl (by kernel_rfl) (by kernel_rfl) (by kernel_rfl) (fun _ h => Mm.pick h [0, 1, 2, 3, 4] (by decide)) (y_as (y_eqlarr Q41 rfl rfl rfl) (congrArg Value.bool (eqn_true (fun _ _ => rfl)))) ?_
            refine hh_y 5 rfl rfl rfl rfl (by kernel_rfl) (by kernel_rfl) (by kernel_rfl) (fun _ h => Mm.pick h [0, 1, 2, 3, 4] (by decide)) (y_move rfl rfl) ?_
            refine hh_yg 6 5 77 true rfl rfl rfl rfl rfl rfl (by kernel_rfl) (by kernel_rfl) (by kernel_rfl) (fun _ h => Mm.pick h [0, 1, 2, 3, 4] (by decide)) (y_ldw 3 rfl T41 rfl rfl) ?_
            refine hh_yg 7 5 77 true rfl rfl rfl rfl rfl rfl (by kernel_rfl) (by kernel_rfl) (by kernel_rfl) (fun _ h => Mm.pick h [0, 1, 2, 3, 4] (by decide)) (y_ldw 2 rfl T41 rfl rfl) ?_
            refine hh_yg 8 5 77 true rfl rfl rfl rfl rfl rfl (by kernel_rfl) (by kernel_rfl) (by kernel_rfl) (fun _ h => Mm.pick h [0, 1, 2, 3, 4] (by decide)) (y_as (y_eqlarr Q41 rfl rfl rfl) (congrArg Value.bool (eqn_true (at_eq kl nl n)))) ?_
            refine hh_y 9 rfl rfl rfl rfl (by kernel_rfl) (by kernel_rfl) (by kernel_rfl) (fun _ h => Mm.pick h [0, 1, 2, 3, 4] (by decide)) (y_pick (b := true) rfl rfl rfl) ?_
            refine hh_y 10 rfl rfl rfl rfl (by kernel_rfl) (by kernel_rfl) (by kernel_rfl) (fun _ h => Mm.pick h [0, 1, 2, 3, 4] (by decide)) (y_move rfl rfl) ?_
            refine hh_yg 11 10 82 true rfl rfl rfl rfl rfl rfl (by kernel_rfl) (by kernel_rfl) (by kernel_rfl) (fun _ h => Mm.pick h [0, 1, 2, 3, 4] (by decide)) (y_move rfl rfl) ?_
            refine hh_yg 12 10 82 true rfl rfl rfl rfl rfl rfl (by kernel_rfl) (by kernel_rfl) (by kernel_rfl) (fun _ h => Mm.pick h [0, 1, 2, 3, 4] (by decide)) (y_move rfl rfl) ?_
            refine hh_yg 13 10 82 true rfl rfl rfl rfl rfl rfl (by kernel_rfl) (by kernel_rfl) (by kernel_rfl) (fun _ h => Mm.pick h [0, 1, 2, 3, 4] (by decide)) (y_as (y_eqln rfl rfl rfl ) (congrArg Value.bool (decide_eq_true (atF_eq kl nl n)))) ?_
            refine hh_y 14 rfl rfl rfl rfl (by kernel_rfl) (by kernel_rfl) (by kernel_rfl) (fun _ h => Mm.pick h [0, 1, 2, 3, 4] (by decide)) (y_pick (b := true) rfl rfl rfl) ?_
            refine hh_y 15 rfl rfl rfl rfl (by kernel_rfl) (by kernel_rfl) (by kernel_rfl) (fun _ h => Mm.pick h [0, 1, 2, 3, 4] (by decide)) (y_move rfl rfl) ?_
            refine hh_yg 16 15 87 true rfl rfl rfl rfl rfl rfl (by kernel_rfl) (by kernel_rfl) (by kernel_rfl) (fun _ h => Mm.pick h [0, 1, 2, 3, 4] (by decide)) (y_move rfl rfl) ?_
            refine hh_yg 17 15 87 true rfl rfl rfl rfl rfl rfl (by kernel_rfl) (by kernel_rfl) (by kernel_rfl) (fun _ h => Mm.pick h [0, 1, 2, 3, 4] (by decide)) (y_move rfl rfl) ?_
            refine hh_ig 18 15 87 true rfl rfl rfl rfl rfl rfl (by kernel_rfl) (e_call0 rfl F32 rfl (fun w hw => r01_Same_t _ _ _ _ w ((rdR3 1 rfl (strN_le _ _ _)) w hw) ((rdR2 0 rfl (strNR_le _ _ _)) w hw) (str_hm (by omega)) (str_eq kl nl m)) rfl) (fun _ _ h => Mm.pick h [0, 1, 2, 3, 4] (by decide)) ?_; intro _
            refine hh_y 19 rfl rfl rfl rfl (by kernel_rfl) (by kernel_rfl) (by kernel_rfl) (fun _ h => Mm.pick h [0, 1, 2, 3, 4] (by decide)) (y_pick (b := true) rfl rfl rfl) ?_
            refine hh_y 20 rfl rfl rfl rfl (by kernel_rfl) (by kernel_rfl) (by kernel_rfl) (fun _ h => Mm.pick h [0, 1, 2, 3, 4] (by decide)) (y_move rfl rfl) ?_
            refine hh_yg 21 20 92 true rfl rfl rfl rfl rfl rfl (by kernel_rfl) (by kernel_rfl) (by kernel_rfl) (fun _ h => Mm.pick h [0, 1, 2, 3, 4] (by decide)) (y_move rfl rfl) ?_
            refine hh_yg 22 20 92 true rfl rfl rfl rfl rfl rfl (by kernel_rfl) (by kernel_rfl) (by kernel_rfl) (fun _ h => Mm.pick h [0, 1, 2, 3, 4] (by decide)) (y_move rfl rfl) ?_
            refine hh_yg 23 20 92 true rfl rfl rfl rfl rfl rfl (by kernel_rfl) (by kernel_rfl) (by kernel_rfl) (fun _ h => Mm.pick h [0, 1, 2, 3, 4] (by decide)) (y_as (y_eqln rfl rfl rfl ) (congrArg Value.bool (decide_eq_true (strF_eq kl nl m)))) ?_
            refine hh_y 24 rfl rfl rfl rfl (by kernel_rfl) (by kernel_rfl) (by kernel_rfl) (fun _ h => Mm.pick h [0, 1, 2, 3, 4] (by decide)) (y_pick (b := true) rfl rfl rfl) ?_
            refine hh_y 25 rfl rfl rfl rfl (by kernel_rfl) (by kernel_rfl) (by kernel_rfl) (fun _ h => Mm.pick h [0, 1, 2, 3, 4] (by decide)) (y_move rfl rfl) ?_
            refine hh_ig 26 25 97 true rfl rfl rfl rfl rfl rfl (by kernel_rfl) (e_call0 rfl F46 rfl (fun w hw => law12_alive_ct w) rfl) (fun _ _ h => Mm.pick h [0, 1, 2, 3, 4] (by decide)) ?_; intro _
            refine hh_y 27 rfl rfl rfl rfl (by kernel_rfl) (by kernel_rfl) (by kernel_rfl) (fun _ h => Mm.pick h [0, 1, 2, 3, 4] (by decide)) (y_pick (b := true) rfl rfl rfl) ?_
            refine hh_y 28 rfl rfl rfl rfl (by kernel_rfl) (by kernel_rfl) (by kernel_rfl) (fun _ h => Mm.pick h [0, 1, 2, 3, 4] (by decide)) (y_assign rfl rfl) ?_
            refine hh_done (by kernel_rfl) ?_
            refine hq_then ?_
            refine hc_ret ?_
            exact hq_ret1 (()) rfl (rv_tmp rfl) rfl (fun _ h => Mm.pick h [] (by simp))
        · skip
          refine hc_region ?_
          refine hl_y rfl rfl rfl (y_move rfl rfl) ?_
          refine hl_y rfl rfl rfl (y_lenE (kl.length) rfl rfl S22 rfl (rdF hk) (by first | rfl | simp only [ls_len, ns_len] | (simp only [ls_len, ns_len]; omega))) ?_
          refine hl_y rfl rfl rfl (y_as (y_gtrn (q := 100) rfl rfl rfl ) (congrArg Value.bool (decide_eq_false (by omega)))) ?_
          refine hl_y rfl rfl rfl (y_move rfl rfl) ?_
          refine hl_yg 3 22 false rfl rfl rfl rfl rfl (y_move rfl rfl) ?_
          refine hl_yg 3 22 false rfl rfl rfl rfl rfl (y_lenE (nl.length) rfl rfl S22 rfl (rdF hn) (by first | rfl | simp only [ls_len, ns_len] | (simp only [ls_len, ns_len]; omega))) ?_
          refine hl_yg 3 22 false rfl rfl rfl rfl rfl (y_as (y_gtrn (q := 100) rfl rfl rfl ) (congrArg Value.bool (decide_eq_false (by omega)))) ?_
          refine hl_y rfl rfl rfl (y_pick (b := false) rfl rfl rfl) ?_
          refine hl_y rfl rfl rfl (y_move rfl rfl) ?_
          refine hl_yg 8 27 false rfl rfl rfl rfl rfl (y_move rfl rfl) ?_
          refine hl_yg 8 27 false rfl rfl rfl rfl rfl (y_as (y_gtrn (q := 300) rfl rfl rfl ) (congrArg Value.bool (decide_eq_false (by omega)))) ?_
          refine hl_yg 8 27 false rfl rfl rfl rfl rfl (y_move rfl rfl) ?_
          refine hl_no 11 30 true false rfl rfl rfl rfl rfl rfl ?_
          refine hl_no 11 30 true false rfl rfl rfl rfl rfl rfl ?_
          refine hl_yg 8 27 false rfl rfl rfl rfl rfl (y_pick (b := false) rfl rfl rfl) ?_
          refine hl_y rfl rfl rfl (y_pick (b := false) rfl rfl rfl) ?_
          refine hl_y rfl rfl rfl (y_move rfl rfl) ?_
          refine hl_yg 16 35 false rfl rfl rfl rfl rfl (y_move rfl rfl) ?_
          refine hl_yg 16 35 false rfl rfl rfl rfl rfl (y_as (y_gtrn (q := 200) rfl rfl rfl ) (congrArg Value.bool (decide_eq_false (by omega)))) ?_
          refine hl_yg 16 35 false rfl rfl rfl rfl rfl (y_move rfl rfl) ?_
          refine hl_no 19 38 true false rfl rfl rfl rfl rfl rfl ?_
          refine hl_no 19 38 true false rfl rfl rfl rfl rfl rfl ?_
          refine hl_yg 16 35 false rfl rfl rfl rfl rfl (y_pick (b := false) rfl rfl rfl) ?_
          refine hl_y rfl rfl rfl (y_pick (b := false) rfl rfl rfl) ?_
          refine hl_nil ?_
          refine hq_then ?_
          refine hc_ifF rfl ?_
          refine hc_skip ?_
          refine hq_then ?_
          refine hc_seq ?_
          refine hc_region ?_
          refine hl_y rfl rfl rfl (y_move rfl rfl) ?_
          refine hl_y rfl rfl rfl (y_move rfl rfl) ?_
          refine hl_y rfl rfl rfl (y_move rfl rfl) ?_
          refine hl_i rfl rfl rfl (e_call0 rfl F47 rfl (fun w hw => ctr_At_ct _ _ _ _ n (by omega) w ((rdF hk) w hw) ((rdF hn) w hw)) rfl) ?_; intro _
          refine hl_y rfl rfl rfl (y_move rfl rfl) ?_
          refine hl_y rfl rfl rfl (y_extract rfl rfl rfl) ?_
          refine hl_y rfl rfl rfl (y_extract rfl rfl rfl) ?_
          refine hl_i rfl rfl rfl (e_alloc rfl Z41) ?_; intro g11
          refine hl_i0 rfl rfl (e_stw 0 rfl T41.2 rfl rfl rfl (ns_oneb _ _)) ?_; intro _
          refine hl_y rfl rfl rfl (y_assign rfl rfl) ?_
          refine hl_nil ?_
          refine hq_then ?_
          refine hc_seq ?_
          refine hc_region ?_
          refine hl_y rfl rfl rfl (y_move rfl rfl) ?_
          refine hl_y rfl rfl rfl (y_move rfl rfl) ?_
          refine hl_y rfl rfl rfl (y_move rfl rfl) ?_
          refine hl_i rfl rfl rfl (e_call0 rfl F48 rfl (fun w hw => r12_At_ct _ _ _ _ n (by omega) w ((rdF hk) w hw) ((rdF hn) w hw)) rfl) ?_; intro _
          refine hl_y rfl rfl rfl (y_move rfl rfl) ?_
          refine hl_y rfl rfl rfl (y_extract rfl rfl rfl) ?_
          refine hl_y rfl rfl rfl (y_extract rfl rfl rfl) ?_
          refine hl_i rfl rfl rfl (e_alloc rfl Z41) ?_; intro g13
          refine hl_i0 rfl rfl (e_stw 0 rfl T41.2 rfl rfl rfl (ns_oneb _ _)) ?_; intro _
          refine hl_y rfl rfl rfl (y_assign rfl rfl) ?_
          refine hl_nil ?_
          refine hq_then ?_
          refine hc_seq ?_
          refine hc_region ?_
          refine hl_y rfl rfl rfl (y_move rfl rfl) ?_
          refine hl_y rfl rfl rfl (y_move rfl rfl) ?_
          refine hl_y rfl rfl rfl (y_move rfl rfl) ?_
          refine hl_i rfl rfl rfl (e_call rfl F49 rfl (fun w hw => ctr_Stream_ct _ _ _ _ m (by omega) w ((rdF hk) w hw) ((rdF hn) w hw)) rfl) ?_; intro y62
          refine hl_y rfl rfl rfl (y_move rfl rfl) ?_
          refine hl_y rfl rfl rfl (y_extract rfl rfl rfl) ?_
          refine hl_y rfl rfl rfl (y_extract rfl rfl rfl) ?_
          refine hl_y rfl rfl rfl (y_assign rfl rfl) ?_
          refine hl_y rfl rfl rfl (y_assign rfl rfl) ?_
          refine hl_nil ?_
          refine hq_then ?_
          refine hc_seq ?_
          refine hc_region ?_
          refine hl_y rfl rfl rfl (y_move rfl rfl) ?_
          refine hl_y rfl rfl rfl (y_move rfl rfl) ?_
          refine hl_y rfl rfl rfl (y_move rfl rfl) ?_
          refine hl_i rfl rfl rfl (e_call rfl F50 rfl (fun w hw => r12_Stream_ct _ _ _ _ m (by omega) w ((rdF hk) w hw) ((rdF hn) w hw)) rfl) ?_; intro y69
          refine hl_y rfl rfl rfl (y_move rfl rfl) ?_
          refine hl_y rfl rfl rfl (y_extract rfl rfl rfl) ?_
          refine hl_y rfl rfl rfl (y_extract rfl rfl rfl) ?_
          refine hl_y rfl rfl rfl (y_assign rfl rfl) ?_
          refine hl_y rfl rfl rfl (y_assign rfl rfl) ?_
          refine hl_nil ?_
          refine hq_then ?_
          refine hc_seq ?_
          refine hc_drawP [0, 1, 2, 3, 4] follows_mixed ?_
          refine hh_y 0 rfl rfl rfl rfl (by kernel_rfl) (by kernel_rfl) (by kernel_rfl) (fun _ h => Mm.pick h [0, 1, 2, 3, 4] (by decide)) (y_ldw 4 rfl T41 rfl rfl) ?_
          refine hh_y 2 rfl rfl rfl rfl (by kernel_rfl) (by kernel_rfl) (by kernel_rfl) (fun _ h => Mm.pick h [0, 1, 2, 3, 4] (by decide)) (y_ldw 4 rfl T41 rfl rfl) ?_
          refine hh_i 1 rfl rfl rfl rfl (by kernel_rfl) (e_call0 rfl F51 rfl (fun w hw => ctr_Next_ct _ w) rfl) (fun _ _ h => Mm.pick h [0, 1, 2, 3, 4] (by decide)) ?_; intro _
          refine hh_i 3 rfl rfl rfl rfl (by kernel_rfl) (e_call0 rfl F52 rfl (fun w hw => r12_Next_ct _ w) rfl) (fun _ _ h => Mm.pick h [0, 1, 2, 3, 4] (by decide)) ?_; intro _
          refine hh_y 4 rfl rfl rfl rfl (by kernel_rfl) (by kernel_rfl) (by kernel_rfl) (fun _ h => Mm.pick h [0, 1, 2, 3, 4] (by decide)) (y_as (y_eqlarr Q41 rfl rfl rfl) (congrArg Value.bool (eqn_true (fun _ _ => rfl)))) ?_
          refine hh_y 5 rfl rfl rfl rfl (by kernel_rfl) (by kernel_rfl) (by kernel_rfl) (fun _ h => Mm.pick h [0, 1, 2, 3, 4] (by decide)) (y_move rfl rfl) ?_
          refine hh_yg 6 5 77 true rfl rfl rfl rfl rfl rfl (by kernel_rfl) (by kernel_rfl) (by kernel_rfl) (fun _ h => Mm.pick h [0, 1, 2, 3, 4] (by decide)) (y_ldw 3 rfl T41 rfl rfl) ?_
          refine hh_yg 7 5 77 true rfl rfl rfl rfl rfl rfl (by kernel_rfl) (by kernel_rfl) (by kernel_rfl) (fun _ h => Mm.pick h [0, 1, 2, 3, 4] (by decide)) (y_ldw 2 rfl T41 rfl rfl) ?_
          refine hh_yg 8 5 77 true rfl rfl rfl rfl rfl rfl (by kernel_rfl) (by kernel_rfl) (by kernel_rfl) (fun _ h => Mm.pick h [0, 1, 2, 3, 4] (by decide)) (y_as (y_eqlarr Q41 rfl rfl rfl) (congrArg Value.bool (eqn_true (at_eq kl nl n)))) ?_
          refine hh_y 9 rfl rfl rfl rfl (by kernel_rfl) (by kernel_rfl) (by kernel_rfl) (fun _ h => Mm.pick h [0, 1, 2, 3, 4] (by decide)) (y_pick (b := true) rfl rfl rfl) ?_
          refine hh_y 10 rfl rfl rfl rfl (by kernel_rfl) (by kernel_rfl) (by kernel_rfl) (fun _ h => Mm.pick h [0, 1, 2, 3, 4] (by decide)) (y_move rfl rfl) ?_
          refine hh_yg 11 10 82 true rfl rfl rfl rfl rfl rfl (by kernel_rfl) (by kernel_rfl) (by kernel_rfl) (fun _ h => Mm.pick h [0, 1, 2, 3, 4] (by decide)) (y_move rfl rfl) ?_
          refine hh_yg 12 10 82 true rfl rfl rfl rfl rfl rfl (by kernel_rfl) (by kernel_rfl) (by kernel_rfl) (fun _ h => Mm.pick h [0, 1, 2, 3, 4] (by decide)) (y_move rfl rfl) ?_
          refine hh_yg 13 10 82 true rfl rfl rfl rfl rfl rfl (by kernel_rfl) (by kernel_rfl) (by kernel_rfl) (fun _ h => Mm.pick h [0, 1, 2, 3, 4] (by decide)) (y_as (y_eqln rfl rfl rfl ) (congrArg Value.bool (decide_eq_true (atF_eq kl nl n)))) ?_
          refine hh_y 14 rfl rfl rfl rfl (by kernel_rfl) (by kernel_rfl) (by kernel_rfl) (fun _ h => Mm.pick h [0, 1, 2, 3, 4] (by decide)) (y_pick (b := true) rfl rfl rfl) ?_
          refine hh_y 15 rfl rfl rfl rfl (by kernel_rfl) (by kernel_rfl) (by kernel_rfl) (fun _ h => Mm.pick h [0, 1, 2, 3, 4] (by decide)) (y_move rfl rfl) ?_
          refine hh_yg 16 15 87 true rfl rfl rfl rfl rfl rfl (by kernel_rfl) (by kernel_rfl) (by kernel_rfl) (fun _ h => Mm.pick h [0, 1, 2, 3, 4] (by decide)) (y_move rfl rfl) ?_
          refine hh_yg 17 15 87 true rfl rfl rfl rfl rfl rfl (by kernel_rfl) (by kernel_rfl) (by kernel_rfl) (fun _ h => Mm.pick h [0, 1, 2, 3, 4] (by decide)) (y_move rfl rfl) ?_
          refine hh_ig 18 15 87 true rfl rfl rfl rfl rfl rfl (by kernel_rfl) (e_call0 rfl F32 rfl (fun w hw => r01_Same_t _ _ _ _ w ((rdR3 1 rfl (strN_le _ _ _)) w hw) ((rdR2 0 rfl (strNR_le _ _ _)) w hw) (str_hm (by omega)) (str_eq kl nl m)) rfl) (fun _ _ h => Mm.pick h [0, 1, 2, 3, 4] (by decide)) ?_; intro _
          refine hh_y 19 rfl rfl rfl rfl (by kernel_rfl) (by kernel_rfl) (by kernel_rfl) (fun _ h => Mm.pick h [0, 1, 2, 3, 4] (by decide)) (y_pick (b := true) rfl rfl rfl) ?_
          refine hh_y 20 rfl rfl rfl rfl (by kernel_rfl) (by kernel_rfl) (by kernel_rfl) (fun _ h => Mm.pick h [0, 1, 2, 3, 4] (by decide)) (y_move rfl rfl) ?_
          refine hh_yg 21 20 92 true rfl rfl rfl rfl rfl rfl (by kernel_rfl) (by kernel_rfl) (by kernel_rfl) (fun _ h => Mm.pick h [0, 1, 2, 3, 4] (by decide)) (y_move rfl rfl) ?_
          refine hh_yg 22 20 92 true rfl rfl rfl rfl rfl rfl (by kernel_rfl) (by kernel_rfl) (by kernel_rfl) (fun _ h => Mm.pick h [0, 1, 2, 3, 4] (by decide)) (y_move rfl rfl) ?_
          refine hh_yg 23 20 92 true rfl rfl rfl rfl rfl rfl (by kernel_rfl) (by kernel_rfl) (by kernel_rfl) (fun _ h => Mm.pick h [0, 1, 2, 3, 4] (by decide)) (y_as (y_eqln rfl rfl rfl ) (congrArg Value.bool (decide_eq_true (strF_eq kl nl m)))) ?_
          refine hh_y 24 rfl rfl rfl rfl (by kernel_rfl) (by kernel_rfl) (by kernel_rfl) (fun _ h => Mm.pick h [0, 1, 2, 3, 4] (by decide)) (y_pick (b := true) rfl rfl rfl) ?_
          refine hh_y 25 rfl rfl rfl rfl (by kernel_rfl) (by kernel_rfl) (by kernel_rfl) (fun _ h => Mm.pick h [0, 1, 2, 3, 4] (by decide)) (y_move rfl rfl) ?_
          refine hh_ig 26 25 97 true rfl rfl rfl rfl rfl rfl (by kernel_rfl) (e_call0 rfl F46 rfl (fun w hw => law12_alive_ct w) rfl) (fun _ _ h => Mm.pick h [0, 1, 2, 3, 4] (by decide)) ?_; intro _
          refine hh_y 27 rfl rfl rfl rfl (by kernel_rfl) (by kernel_rfl) (by kernel_rfl) (fun _ h => Mm.pick h [0, 1, 2, 3, 4] (by decide)) (y_pick (b := true) rfl rfl rfl) ?_
          refine hh_y 28 rfl rfl rfl rfl (by kernel_rfl) (by kernel_rfl) (by kernel_rfl) (fun _ h => Mm.pick h [0, 1, 2, 3, 4] (by decide)) (y_assign rfl rfl) ?_
          refine hh_done (by kernel_rfl) ?_
          refine hq_then ?_
          refine hc_ret ?_
          exact hq_ret1 (()) rfl (rv_tmp rfl) rfl (fun _ h => Mm.pick h [] (by simp))

set_option maxHeartbeats 2000000 in
theorem ctrRows_pn (kl nl : List UInt8) (kv nv : Value) (c : Nat → UInt8) (n : Nat) (hb : n ≤ 9223372036854775807) (m : Int) (hb2 : -9223372036854775808 ≤ m) (hm0 : m < 0) (w : World) (hk : Rd w kv (ls vb kl)) (hn : Rd w nv (ls vb nl)) : Ct0 Try.prog 11 #[kv, nv, .agg (ns vb 16 c).toArray, vi n, .int .i64 m] w (.bool true) := by
  refine ct0_of Try.func11 rfl Try.ntmps11 rfl ?_
  refine hc_seq ?_
  refine hc_region ?_
  refine hl_i rfl rfl rfl (e_boxa rfl rfl) ?_; intro g7
  refine hl_y rfl rfl rfl (y_assign rfl rfl) ?_
  refine hl_nil ?_
  refine hq_then ?_
  refine hc_seq ?_
  refine hc_seq ?_
  rcases Decidable.em (100 < kl.length) with k0 | k0
  · skip
    refine hc_region ?_
    refine hl_y rfl rfl rfl (y_move rfl rfl) ?_
    refine hl_y rfl rfl rfl (y_lenE (kl.length) rfl rfl S22 rfl (rdF hk) (by first | rfl | simp only [ls_len, ns_len] | (simp only [ls_len, ns_len]; omega))) ?_
    refine hl_y rfl rfl rfl (y_as (y_gtrn (q := 100) rfl rfl rfl ) (congrArg Value.bool (decide_eq_true (by omega)))) ?_
    refine hl_y rfl rfl rfl (y_move rfl rfl) ?_
    refine hl_no 3 22 false true rfl rfl rfl rfl rfl rfl ?_
    refine hl_no 3 22 false true rfl rfl rfl rfl rfl rfl ?_
    refine hl_no 3 22 false true rfl rfl rfl rfl rfl rfl ?_
    refine hl_y rfl rfl rfl (y_pick (b := true) rfl rfl rfl) ?_
    refine hl_y rfl rfl rfl (y_move rfl rfl) ?_
    refine hl_no 8 27 false true rfl rfl rfl rfl rfl rfl ?_
    refine hl_no 8 27 false true rfl rfl rfl rfl rfl rfl ?_
    refine hl_no 8 27 false true rfl rfl rfl rfl rfl rfl ?_
    refine hl_nou 11 30 true rfl rfl rfl rfl rfl ?_
    refine hl_nou 11 30 true rfl rfl rfl rfl rfl ?_
    refine hl_no 8 27 false true rfl rfl rfl rfl rfl rfl ?_
    refine hl_y rfl rfl rfl (y_pick (b := true) rfl rfl rfl) ?_
    refine hl_y rfl rfl rfl (y_move rfl rfl) ?_
    refine hl_no 16 35 false true rfl rfl rfl rfl rfl rfl ?_
    refine hl_no 16 35 false true rfl rfl rfl rfl rfl rfl ?_
    refine hl_no 16 35 false true rfl rfl rfl rfl rfl rfl ?_
    refine hl_nou 19 38 true rfl rfl rfl rfl rfl ?_
    refine hl_nou 19 38 true rfl rfl rfl rfl rfl ?_
    refine hl_no 16 35 false true rfl rfl rfl rfl rfl rfl ?_
    refine hl_y rfl rfl rfl (y_pick (b := true) rfl rfl rfl) ?_
    refine hl_nil ?_
    refine hq_then ?_
    refine hc_ifT rfl ?_
    refine hc_seq ?_
    refine hc_region ?_
    refine hl_i rfl rfl rfl (e_call0 rfl F46 rfl (fun w hw => law12_alive_ct w) rfl) ?_; intro _
    refine hl_y rfl rfl rfl (y_assign rfl rfl) ?_
    refine hl_nil ?_
    refine hq_then ?_
    refine hc_ret ?_
    exact hq_then_ret (hq_ret1 (()) rfl (rv_tmp rfl) rfl (fun _ h => Mm.pick h [] (by simp)))
  · skip
    rcases Decidable.em (100 < nl.length) with k1 | k1
    · skip
      refine hc_region ?_
      refine hl_y rfl rfl rfl (y_move rfl rfl) ?_
      refine hl_y rfl rfl rfl (y_lenE (kl.length) rfl rfl S22 rfl (rdF hk) (by first | rfl | simp only [ls_len, ns_len] | (simp only [ls_len, ns_len]; omega))) ?_
      refine hl_y rfl rfl rfl (y_as (y_gtrn (q := 100) rfl rfl rfl ) (congrArg Value.bool (decide_eq_false (by omega)))) ?_
      refine hl_y rfl rfl rfl (y_move rfl rfl) ?_
      refine hl_yg 3 22 false rfl rfl rfl rfl rfl (y_move rfl rfl) ?_
      refine hl_yg 3 22 false rfl rfl rfl rfl rfl (y_lenE (nl.length) rfl rfl S22 rfl (rdF hn) (by first | rfl | simp only [ls_len, ns_len] | (simp only [ls_len, ns_len]; omega))) ?_
      refine hl_yg 3 22 false rfl rfl rfl rfl rfl (y_as (y_gtrn (q := 100) rfl rfl rfl ) (congrArg Value.bool (decide_eq_true (by omega)))) ?_
      refine hl_y rfl rfl rfl (y_pick (b := false) rfl rfl rfl) ?_
      refine hl_y rfl rfl rfl (y_move rfl rfl) ?_
      refine hl_no 8 27 false true rfl rfl rfl rfl rfl rfl ?_
      refine hl_no 8 27 false true rfl rfl rfl rfl rfl rfl ?_
      refine hl_no 8 27 false true rfl rfl rfl rfl rfl rfl ?_
      refine hl_nou 11 30 true rfl rfl rfl rfl rfl ?_
      refine hl_nou 11 30 true rfl rfl rfl rfl rfl ?_
      refine hl_no 8 27 false true rfl rfl rfl rfl rfl rfl ?_
      refine hl_y rfl rfl rfl (y_pick (b := true) rfl rfl rfl) ?_
      refine hl_y rfl rfl rfl (y_move rfl rfl) ?_
      refine hl_no 16 35 false true rfl rfl rfl rfl rfl rfl ?_
      refine hl_no 16 35 false true rfl rfl rfl rfl rfl rfl ?_
      refine hl_no 16 35 false true rfl rfl rfl rfl rfl rfl ?_
      refine hl_nou 19 38 true rfl rfl rfl rfl rfl ?_
      refine hl_nou 19 38 true rfl rfl rfl rfl rfl ?_
      refine hl_no 16 35 false true rfl rfl rfl rfl rfl rfl ?_
      refine hl_y rfl rfl rfl (y_pick (b := true) rfl rfl rfl) ?_
      refine hl_nil ?_
      refine hq_then ?_
      refine hc_ifT rfl ?_
      refine hc_seq ?_
      refine hc_region ?_
      refine hl_i rfl rfl rfl (e_call0 rfl F46 rfl (fun w hw => law12_alive_ct w) rfl) ?_; intro _
      refine hl_y rfl rfl rfl (y_assign rfl rfl) ?_
      refine hl_nil ?_
      refine hq_then ?_
      refine hc_ret ?_
      exact hq_then_ret (hq_ret1 (()) rfl (rv_tmp rfl) rfl (fun _ h => Mm.pick h [] (by simp)))
    · skip
      rcases Decidable.em (300 < n) with k2 | k2
      · skip
        rcases Decidable.em (n ≤ 65535) with k3 | k3
        · skip
          refine hc_region ?_
          refine hl_y rfl rfl rfl (y_move rfl rfl) ?_
          refine hl_y rfl rfl rfl (y_lenE (kl.length) rfl rfl S22 rfl (rdF hk) (by first | rfl | simp only [ls_len, ns_len] | (simp only [ls_len, ns_len]; omega))) ?_
          refine hl_y rfl rfl rfl (y_as (y_gtrn (q := 100) rfl rfl rfl ) (congrArg Value.bool (decide_eq_false (by omega)))) ?_
          refine hl_y rfl rfl rfl (y_move rfl rfl) ?_
          refine hl_yg 3 22 false rfl rfl rfl rfl rfl (y_move rfl rfl) ?_
          refine hl_yg 3 22 false rfl rfl rfl rfl rfl (y_lenE (nl.length) rfl rfl S22 rfl (rdF hn) (by first | rfl | simp only [ls_len, ns_len] | (simp only [ls_len, ns_len]; omega))) ?_
          refine hl_yg 3 22 false rfl rfl rfl rfl rfl (y_as (y_gtrn (q := 100) rfl rfl rfl ) (congrArg Value.bool (decide_eq_false (by omega)))) ?_
          refine hl_y rfl rfl rfl (y_pick (b := false) rfl rfl rfl) ?_
          refine hl_y rfl rfl rfl (y_move rfl rfl) ?_
          refine hl_yg 8 27 false rfl rfl rfl rfl rfl (y_move rfl rfl) ?_
          refine hl_yg 8 27 false rfl rfl rfl rfl rfl (y_as (y_gtrn (q := 300) rfl rfl rfl ) (congrArg Value.bool (decide_eq_true (by omega)))) ?_
          refine hl_yg 8 27 false rfl rfl rfl rfl rfl (y_move rfl rfl) ?_
          refine hl_yg 11 30 true rfl rfl rfl rfl rfl (y_move rfl rfl) ?_
          refine hl_yg 11 30 true rfl rfl rfl rfl rfl (y_as (y_leqn (q := 65535) rfl rfl rfl ) (congrArg Value.bool (decide_eq_true (by omega)))) ?_
          refine hl_yg 8 27 false rfl rfl rfl rfl rfl (y_pick (b := true) rfl rfl rfl) ?_
          refine hl_y rfl rfl rfl (y_pick (b := false) rfl rfl rfl) ?_
          refine hl_y rfl rfl rfl (y_move rfl rfl) ?_
          refine hl_no 16 35 false true rfl rfl rfl rfl rfl rfl ?_
          refine hl_no 16 35 false true rfl rfl rfl rfl rfl rfl ?_
          refine hl_no 16 35 false true rfl rfl rfl rfl rfl rfl ?_
          refine hl_nou 19 38 true rfl rfl rfl rfl rfl ?_
          refine hl_nou 19 38 true rfl rfl rfl rfl rfl ?_
          refine hl_no 16 35 false true rfl rfl rfl rfl rfl rfl ?_
          refine hl_y rfl rfl rfl (y_pick (b := true) rfl rfl rfl) ?_
          refine hl_nil ?_
          refine hq_then ?_
          refine hc_ifT rfl ?_
          refine hc_seq ?_
          refine hc_region ?_
          refine hl_i rfl rfl rfl (e_call0 rfl F46 rfl (fun w hw => law12_alive_ct w) rfl) ?_; intro _
          refine hl_y rfl rfl rfl (y_assign rfl rfl) ?_
          refine hl_nil ?_
          refine hq_then ?_
          refine hc_ret ?_
          exact hq_then_ret (hq_ret1 (()) rfl (rv_tmp rfl) rfl (fun _ h => Mm.pick h [] (by simp)))
        · skip
          refine hc_region ?_
          refine hl_y rfl rfl rfl (y_move rfl rfl) ?_
          refine hl_y rfl rfl rfl (y_lenE (kl.length) rfl rfl S22 rfl (rdF hk) (by first | rfl | simp only [ls_len, ns_len] | (simp only [ls_len, ns_len]; omega))) ?_
          refine hl_y rfl rfl rfl (y_as (y_gtrn (q := 100) rfl rfl rfl ) (congrArg Value.bool (decide_eq_false (by omega)))) ?_
          refine hl_y rfl rfl rfl (y_move rfl rfl) ?_
          refine hl_yg 3 22 false rfl rfl rfl rfl rfl (y_move rfl rfl) ?_
          refine hl_yg 3 22 false rfl rfl rfl rfl rfl (y_lenE (nl.length) rfl rfl S22 rfl (rdF hn) (by first | rfl | simp only [ls_len, ns_len] | (simp only [ls_len, ns_len]; omega))) ?_
          refine hl_yg 3 22 false rfl rfl rfl rfl rfl (y_as (y_gtrn (q := 100) rfl rfl rfl ) (congrArg Value.bool (decide_eq_false (by omega)))) ?_
          refine hl_y rfl rfl rfl (y_pick (b := false) rfl rfl rfl) ?_
          refine hl_y rfl rfl rfl (y_move rfl rfl) ?_
          refine hl_yg 8 27 false rfl rfl rfl rfl rfl (y_move rfl rfl) ?_
          refine hl_yg 8 27 false rfl rfl rfl rfl rfl (y_as (y_gtrn (q := 300) rfl rfl rfl ) (congrArg Value.bool (decide_eq_true (by omega)))) ?_
          refine hl_yg 8 27 false rfl rfl rfl rfl rfl (y_move rfl rfl) ?_
          refine hl_yg 11 30 true rfl rfl rfl rfl rfl (y_move rfl rfl) ?_
          refine hl_yg 11 30 true rfl rfl rfl rfl rfl (y_as (y_leqn (q := 65535) rfl rfl rfl ) (congrArg Value.bool (decide_eq_false (by omega)))) ?_
          refine hl_yg 8 27 false rfl rfl rfl rfl rfl (y_pick (b := true) rfl rfl rfl) ?_
          refine hl_y rfl rfl rfl (y_pick (b := false) rfl rfl rfl) ?_
          refine hl_y rfl rfl rfl (y_move rfl rfl) ?_
          refine hl_yg 16 35 false rfl rfl rfl rfl rfl (y_move rfl rfl) ?_
          refine hl_yg 16 35 false rfl rfl rfl rfl rfl (y_as (y_gtri (q := 200) rfl rfl rfl ) (congrArg Value.bool (decide_eq_false (by omega)))) ?_
          refine hl_yg 16 35 false rfl rfl rfl rfl rfl (y_move rfl rfl) ?_
          refine hl_no 19 38 true false rfl rfl rfl rfl rfl rfl ?_
          refine hl_no 19 38 true false rfl rfl rfl rfl rfl rfl ?_
          refine hl_yg 16 35 false rfl rfl rfl rfl rfl (y_pick (b := false) rfl rfl rfl) ?_
          refine hl_y rfl rfl rfl (y_pick (b := false) rfl rfl rfl) ?_
          refine hl_nil ?_
          refine hq_then ?_
          refine hc_ifF rfl ?_
          refine hc_skip ?_
          refine hq_then ?_
          refine hc_seq ?_
          refine hc_region ?_
          refine hl_y rfl rfl rfl (y_move rfl rfl) ?_
          refine hl_y rfl rfl rfl (y_move rfl rfl) ?_
          refine hl_y rfl rfl rfl (y_move rfl rfl) ?_
          refine hl_i rfl rfl rfl (e_call0 rfl F47 rfl (fun w hw => ctr_At_ct _ _ _ _ n (by omega) w ((rdF hk) w hw) ((rdF hn) w hw)) rfl) ?_; intro _
          refine hl_y rfl rfl rfl (y_move rfl rfl) ?_
          refine hl_y rfl rfl rfl (y_extract rfl rfl rfl) ?_
          refine hl_y rfl rfl rfl (y_extract rfl rfl rfl) ?_
          refine hl_i rfl rfl rfl (e_alloc rfl Z41) ?_; intro g11
          refine hl_i0 rfl rfl (e_stw 0 rfl T41.2 rfl rfl rfl (ns_oneb _ _)) ?_; intro _
          refine hl_y rfl rfl rfl (y_assign rfl rfl) ?_
          refine hl_nil ?_
          refine hq_then ?_
          refine hc_seq ?_
          refine hc_region ?_
          refine hl_y rfl rfl rfl (y_move rfl rfl) ?_
          refine hl_y rfl rfl rfl (y_move rfl rfl) ?_
          refine hl_y rfl rfl rfl (y_move rfl rfl) ?_
          refine hl_i rfl rfl rfl (e_call0 rfl F48 rfl (fun w hw => r12_At_ct _ _ _ _ n (by omega) w ((rdF hk) w hw) ((rdF hn) w hw)) rfl) ?_; intro _
          refine hl_y rfl rfl rfl (y_move rfl rfl) ?_
          refine hl_y rfl rfl rfl (y_extract rfl rfl rfl) ?_
          refine hl_y rfl rfl rfl (y_extract rfl rfl rfl) ?_
          refine hl_i rfl rfl rfl (e_alloc rfl Z41) ?_; intro g13
          refine hl_i0 rfl rfl (e_stw 0 rfl T41.2 rfl rfl rfl (ns_oneb _ _)) ?_; intro _
          refine hl_y rfl rfl rfl (y_assign rfl rfl) ?_
          refine hl_nil ?_
          refine hq_then ?_
          refine hc_seq ?_
          refine hc_region ?_
          refine hl_y rfl rfl rfl (y_move rfl rfl) ?_
          refine hl_y rfl rfl rfl (y_move rfl rfl) ?_
          refine hl_y rfl rfl rfl (y_move rfl rfl) ?_
          refine hl_i rfl rfl rfl (e_call0 rfl F49 rfl (fun w hw => ctr_Stream_neg _ _ _ _ _ (by omega) (by omega) w ((rdF hk) w hw) ((rdF hn) w hw)) rfl) ?_; intro _
          refine hl_y rfl rfl rfl (y_move rfl rfl) ?_
          refine hl_y rfl rfl rfl (y_extract rfl rfl rfl) ?_
          refine hl_y rfl rfl rfl (y_extract rfl rfl rfl) ?_
          refine hl_y rfl rfl rfl (y_assign rfl rfl) ?_
          refine hl_y rfl rfl rfl (y_assign rfl rfl) ?_
          refine hl_nil ?_
          refine hq_then ?_
          refine hc_seq ?_
          refine hc_region ?_
          refine hl_y rfl rfl rfl (y_move rfl rfl) ?_
          refine hl_y rfl rfl rfl (y_move rfl rfl) ?_
          refine hl_y rfl rfl rfl (y_move rfl rfl) ?_
          refine hl_i rfl rfl rfl (e_call0 rfl F50 rfl (fun w hw => r12_Stream_neg _ _ _ _ _ (by omega) (by omega) w ((rdF hk) w hw) ((rdF hn) w hw)) rfl) ?_; intro _
          refine hl_y rfl rfl rfl (y_move rfl rfl) ?_
          refine hl_y rfl rfl rfl (y_extract rfl rfl rfl) ?_
          refine hl_y rfl rfl rfl (y_extract rfl rfl rfl) ?_
          refine hl_y rfl rfl rfl (y_assign rfl rfl) ?_
          refine hl_y rfl rfl rfl (y_assign rfl rfl) ?_
          refine hl_nil ?_
          refine hq_then ?_
          refine hc_seq ?_
          refine hc_drawP [0, 1, 2] follows_mixed ?_
          refine hh_y 0 rfl rfl rfl rfl (by kernel_rfl) (by kernel_rfl) (by kernel_rfl) (fun _ h => Mm.pick h [0, 1, 2] (by decide)) (y_ldw 2 rfl T41 rfl rfl) ?_
          refine hh_y 2 rfl rfl rfl rfl (by kernel_rfl) (by kernel_rfl) (by kernel_rfl) (fun _ h => Mm.pick h [0, 1, 2] (by decide)) (y_ldw 2 rfl T41 rfl rfl) ?_
          refine hh_i 1 rfl rfl rfl rfl (by kernel_rfl) (e_call0 rfl F51 rfl (fun w hw => ctr_Next_ct _ w) rfl) (fun _ _ h => Mm.pick h [0, 1, 2] (by decide)) ?_; intro _
          refine hh_i 3 rfl rfl rfl rfl (by kernel_rfl) (e_call0 rfl F52 rfl (fun w hw => r12_Next_ct _ w) rfl) (fun _ _ h => Mm.pick h [0, 1, 2] (by decide)) ?_; intro _
          refine hh_y 4 rfl rfl rfl rfl (by kernel_rfl) (by kernel_rfl) (by kernel_rfl) (fun _ h => Mm.pick h [0, 1, 2] (by decide)) (y_as (y_eqlarr Q41 rfl rfl rfl) (congrArg Value.bool (eqn_true (fun _ _ => rfl)))) ?_
          refine hh_y 5 rfl rfl rfl rfl (by kernel_rfl) (by kernel_rfl) (by kernel_rfl) (fun _ h => Mm.pick h [0, 1, 2] (by decide)) (y_move rfl rfl) ?_
          refine hh_yg 6 5 77 true rfl rfl rfl rfl rfl rfl (by kernel_rfl) (by kernel_rfl) (by kernel_rfl) (fun _ h => Mm.pick h [0, 1, 2] (by decide)) (y_ldw 1 rfl T41 rfl rfl) ?_
          refine hh_yg 7 5 77 true rfl rfl rfl rfl rfl rfl (by kernel_rfl) (by kernel_rfl) (by kernel_rfl) (fun _ h => Mm.pick h [0, 1, 2] (by decide)) (y_ldw 0 rfl T41 rfl rfl) ?_
          refine hh_yg 8 5 77 true rfl rfl rfl rfl rfl rfl (by kernel_rfl) (by kernel_rfl) (by kernel_rfl) (fun _ h => Mm.pick h [0, 1, 2] (by decide)) (y_as (y_eqlarr Q41 rfl rfl rfl) (congrArg Value.bool (eqn_true (at_eq kl nl n)))) ?_
          refine hh_y 9 rfl rfl rfl rfl (by kernel_rfl) (by kernel_rfl) (by kernel_rfl) (fun _ h => Mm.pick h [0, 1, 2] (by decide)) (y_pick (b := true) rfl rfl rfl) ?_
          refine hh_y 10 rfl rfl rfl rfl (by kernel_rfl) (by kernel_rfl) (by kernel_rfl) (fun _ h => Mm.pick h [0, 1, 2] (by decide)) (y_move rfl rfl) ?_
          refine hh_yg 11 10 82 true rfl rfl rfl rfl rfl rfl (by kernel_rfl) (by kernel_rfl) (by kernel_rfl) (fun _ h => Mm.pick h [0, 1, 2] (by decide)) (y_move rfl rfl) ?_
          refine hh_yg 12 10 82 true rfl rfl rfl rfl rfl rfl (by kernel_rfl) (by kernel_rfl) (by kernel_rfl) (fun _ h => Mm.pick h [0, 1, 2] (by decide)) (y_move rfl rfl) ?_
          refine hh_yg 13 10 82 true rfl rfl rfl rfl rfl rfl (by kernel_rfl) (by kernel_rfl) (by kernel_rfl) (fun _ h => Mm.pick h [0, 1, 2] (by decide)) (y_as (y_eqln rfl rfl rfl ) (congrArg Value.bool (decide_eq_true (atF_eq kl nl n)))) ?_
          refine hh_y 14 rfl rfl rfl rfl (by kernel_rfl) (by kernel_rfl) (by kernel_rfl) (fun _ h => Mm.pick h [0, 1, 2] (by decide)) (y_pick (b := true) rfl rfl rfl) ?_
          refine hh_y 15 rfl rfl rfl rfl (by kernel_rfl) (by kernel_rfl) (by kernel_rfl) (fun _ h => Mm.pick h [0, 1, 2] (by decide)) (y_move rfl rfl) ?_
          refine hh_yg 16 15 87 true rfl rfl rfl rfl rfl rfl (by kernel_rfl) (by kernel_rfl) (by kernel_rfl) (fun _ h => Mm.pick h [0, 1, 2] (by decide)) (y_move rfl rfl) ?_
          refine hh_yg 17 15 87 true rfl rfl rfl rfl rfl rfl (by kernel_rfl) (by kernel_rfl) (by kernel_rfl) (fun _ h => Mm.pick h [0, 1, 2] (by decide)) (y_move rfl rfl) ?_
          refine hh_ig 18 15 87 true rfl rfl rfl rfl rfl rfl (by kernel_rfl) (e_call0 rfl F32 rfl (fun w hw => r01_Same_t _ _ _ _ w (rd_nilb w hw) (rd_nilb w hw) (Nat.zero_le _) rfl) rfl) (fun _ _ h => Mm.pick h [0, 1, 2] (by decide)) ?_; intro _
          refine hh_y 19 rfl rfl rfl rfl (by kernel_rfl) (by kernel_rfl) (by kernel_rfl) (fun _ h => Mm.pick h [0, 1, 2] (by decide)) (y_pick (b := true) rfl rfl rfl) ?_
          refine hh_y 20 rfl rfl rfl rfl (by kernel_rfl) (by kernel_rfl) (by kernel_rfl) (fun _ h => Mm.pick h [0, 1, 2] (by decide)) (y_move rfl rfl) ?_
          refine hh_yg 21 20 92 true rfl rfl rfl rfl rfl rfl (by kernel_rfl) (by kernel_rfl) (by kernel_rfl) (fun _ h => Mm.pick h [0, 1, 2] (by decide)) (y_move rfl rfl) ?_
          refine hh_yg 22 20 92 true rfl rfl rfl rfl rfl rfl (by kernel_rfl) (by kernel_rfl) (by kernel_rfl) (fun _ h => Mm.pick h [0, 1, 2] (by decide)) (y_move rfl rfl) ?_
          refine hh_yg 23 20 92 true rfl rfl rfl rfl rfl rfl (by kernel_rfl) (by kernel_rfl) (by kernel_rfl) (fun _ h => Mm.pick h [0, 1, 2] (by decide)) (y_as (y_eqln rfl rfl rfl ) (congrArg Value.bool (decide_eq_true (atFn_eq kl nl)))) ?_
          refine hh_y 24 rfl rfl rfl rfl (by kernel_rfl) (by kernel_rfl) (by kernel_rfl) (fun _ h => Mm.pick h [0, 1, 2] (by decide)) (y_pick (b := true) rfl rfl rfl) ?_
          refine hh_y 25 rfl rfl rfl rfl (by kernel_rfl) (by kernel_rfl) (by kernel_rfl) (fun _ h => Mm.pick h [0, 1, 2] (by decide)) (y_move rfl rfl) ?_
          refine hh_ig 26 25 97 true rfl rfl rfl rfl rfl rfl (by kernel_rfl) (e_call0 rfl F46 rfl (fun w hw => law12_alive_ct w) rfl) (fun _ _ h => Mm.pick h [0, 1, 2] (by decide)) ?_; intro _
          refine hh_y 27 rfl rfl rfl rfl (by kernel_rfl) (by kernel_rfl) (by kernel_rfl) (fun _ h => Mm.pick h [0, 1, 2] (by decide)) (y_pick (b := true) rfl rfl rfl) ?_
          refine hh_y 28 rfl rfl rfl rfl (by kernel_rfl) (by kernel_rfl) (by kernel_rfl) (fun _ h => Mm.pick h [0, 1, 2] (by decide)) (y_assign rfl rfl) ?_
          refine hh_done (by kernel_rfl) ?_
          refine hq_then ?_
          refine hc_ret ?_
          exact hq_ret1 (()) rfl (rv_tmp rfl) rfl (fun _ h => Mm.pick h [] (by simp))
      · skip
        refine hc_region ?_
        refine hl_y rfl rfl rfl (y_move rfl rfl) ?_
        refine hl_y rfl rfl rfl (y_lenE (kl.length) rfl rfl S22 rfl (rdF hk) (by first | rfl | simp only [ls_len, ns_len] | (simp only [ls_len, ns_len]; omega))) ?_
        refine hl_y rfl rfl rfl (y_as (y_gtrn (q := 100) rfl rfl rfl ) (congrArg Value.bool (decide_eq_false (by omega)))) ?_
        refine hl_y rfl rfl rfl (y_move rfl rfl) ?_
        refine hl_yg 3 22 false rfl rfl rfl rfl rfl (y_move rfl rfl) ?_
        refine hl_yg 3 22 false rfl rfl rfl rfl rfl (y_lenE (nl.length) rfl rfl S22 rfl (rdF hn) (by first | rfl | simp only [ls_len, ns_len] | (simp only [ls_len, ns_len]; omega))) ?_
        refine hl_yg 3 22 false rfl rfl rfl rfl rfl (y_as (y_gtrn (q := 100) rfl rfl rfl ) (congrArg Value.bool (decide_eq_false (by omega)))) ?_
        refine hl_y rfl rfl rfl (y_pick (b := false) rfl rfl rfl) ?_
        refine hl_y rfl rfl rfl (y_move rfl rfl) ?_
        refine hl_yg 8 27 false rfl rfl rfl rfl rfl (y_move rfl rfl) ?_
        refine hl_yg 8 27 false rfl rfl rfl rfl rfl (y_as (y_gtrn (q := 300) rfl rfl rfl ) (congrArg Value.bool (decide_eq_false (by omega)))) ?_
        refine hl_yg 8 27 false rfl rfl rfl rfl rfl (y_move rfl rfl) ?_
        refine hl_no 11 30 true false rfl rfl rfl rfl rfl rfl ?_
        refine hl_no 11 30 true false rfl rfl rfl rfl rfl rfl ?_
        refine hl_yg 8 27 false rfl rfl rfl rfl rfl (y_pick (b := false) rfl rfl rfl) ?_
        refine hl_y rfl rfl rfl (y_pick (b := false) rfl rfl rfl) ?_
        refine hl_y rfl rfl rfl (y_move rfl rfl) ?_
        refine hl_yg 16 35 false rfl rfl rfl rfl rfl (y_move rfl rfl) ?_
        refine hl_yg 16 35 false rfl rfl rfl rfl rfl (y_as (y_gtri (q := 200) rfl rfl rfl ) (congrArg Value.bool (decide_eq_false (by omega)))) ?_
        refine hl_yg 16 35 false rfl rfl rfl rfl rfl (y_move rfl rfl) ?_
        refine hl_no 19 38 true false rfl rfl rfl rfl rfl rfl ?_
        refine hl_no 19 38 true false rfl rfl rfl rfl rfl rfl ?_
        refine hl_yg 16 35 false rfl rfl rfl rfl rfl (y_pick (b := false) rfl rfl rfl) ?_
        refine hl_y rfl rfl rfl (y_pick (b := false) rfl rfl rfl) ?_
        refine hl_nil ?_
        refine hq_then ?_
        refine hc_ifF rfl ?_
        refine hc_skip ?_
        refine hq_then ?_
        refine hc_seq ?_
        refine hc_region ?_
        refine hl_y rfl rfl rfl (y_move rfl rfl) ?_
        refine hl_y rfl rfl rfl (y_move rfl rfl) ?_
        refine hl_y rfl rfl rfl (y_move rfl rfl) ?_
        refine hl_i rfl rfl rfl (e_call0 rfl F47 rfl (fun w hw => ctr_At_ct _ _ _ _ n (by omega) w ((rdF hk) w hw) ((rdF hn) w hw)) rfl) ?_; intro _
        refine hl_y rfl rfl rfl (y_move rfl rfl) ?_
        refine hl_y rfl rfl rfl (y_extract rfl rfl rfl) ?_
        refine hl_y rfl rfl rfl (y_extract rfl rfl rfl) ?_
        refine hl_i rfl rfl rfl (e_alloc rfl Z41) ?_; intro g11
        refine hl_i0 rfl rfl (e_stw 0 rfl T41.2 rfl rfl rfl (ns_oneb _ _)) ?_; intro _
        refine hl_y rfl rfl rfl (y_assign rfl rfl) ?_
        refine hl_nil ?_
        refine hq_then ?_
        refine hc_seq ?_
        refine hc_region ?_
        refine hl_y rfl rfl rfl (y_move rfl rfl) ?_
        refine hl_y rfl rfl rfl (y_move rfl rfl) ?_
        refine hl_y rfl rfl rfl (y_move rfl rfl) ?_
        refine hl_i rfl rfl rfl (e_call0 rfl F48 rfl (fun w hw => r12_At_ct _ _ _ _ n (by omega) w ((rdF hk) w hw) ((rdF hn) w hw)) rfl) ?_; intro _
        refine hl_y rfl rfl rfl (y_move rfl rfl) ?_
        refine hl_y rfl rfl rfl (y_extract rfl rfl rfl) ?_
        refine hl_y rfl rfl rfl (y_extract rfl rfl rfl) ?_
        refine hl_i rfl rfl rfl (e_alloc rfl Z41) ?_; intro g13
        refine hl_i0 rfl rfl (e_stw 0 rfl T41.2 rfl rfl rfl (ns_oneb _ _)) ?_; intro _
        refine hl_y rfl rfl rfl (y_assign rfl rfl) ?_
        refine hl_nil ?_
        refine hq_then ?_
        refine hc_seq ?_
        refine hc_region ?_
        refine hl_y rfl rfl rfl (y_move rfl rfl) ?_
        refine hl_y rfl rfl rfl (y_move rfl rfl) ?_
        refine hl_y rfl rfl rfl (y_move rfl rfl) ?_
        refine hl_i rfl rfl rfl (e_call0 rfl F49 rfl (fun w hw => ctr_Stream_neg _ _ _ _ _ (by omega) (by omega) w ((rdF hk) w hw) ((rdF hn) w hw)) rfl) ?_; intro _
        refine hl_y rfl rfl rfl (y_move rfl rfl) ?_
        refine hl_y rfl rfl rfl (y_extract rfl rfl rfl) ?_
        refine hl_y rfl rfl rfl (y_extract rfl rfl rfl) ?_
        refine hl_y rfl rfl rfl (y_assign rfl rfl) ?_
        refine hl_y rfl rfl rfl (y_assign rfl rfl) ?_
        refine hl_nil ?_
        refine hq_then ?_
        refine hc_seq ?_
        refine hc_region ?_
        refine hl_y rfl rfl rfl (y_move rfl rfl) ?_
        refine hl_y rfl rfl rfl (y_move rfl rfl) ?_
        refine hl_y rfl rfl rfl (y_move rfl rfl) ?_
        refine hl_i rfl rfl rfl (e_call0 rfl F50 rfl (fun w hw => r12_Stream_neg _ _ _ _ _ (by omega) (by omega) w ((rdF hk) w hw) ((rdF hn) w hw)) rfl) ?_; intro _
        refine hl_y rfl rfl rfl (y_move rfl rfl) ?_
        refine hl_y rfl rfl rfl (y_extract rfl rfl rfl) ?_
        refine hl_y rfl rfl rfl (y_extract rfl rfl rfl) ?_
        refine hl_y rfl rfl rfl (y_assign rfl rfl) ?_
        refine hl_y rfl rfl rfl (y_assign rfl rfl) ?_
        refine hl_nil ?_
        refine hq_then ?_
        refine hc_seq ?_
        refine hc_drawP [0, 1, 2] follows_mixed ?_
        refine hh_y 0 rfl rfl rfl rfl (by kernel_rfl) (by kernel_rfl) (by kernel_rfl) (fun _ h => Mm.pick h [0, 1, 2] (by decide)) (y_ldw 2 rfl T41 rfl rfl) ?_
        refine hh_y 2 rfl rfl rfl rfl (by kernel_rfl) (by kernel_rfl) (by kernel_rfl) (fun _ h => Mm.pick h [0, 1, 2] (by decide)) (y_ldw 2 rfl T41 rfl rfl) ?_
        refine hh_i 1 rfl rfl rfl rfl (by kernel_rfl) (e_call0 rfl F51 rfl (fun w hw => ctr_Next_ct _ w) rfl) (fun _ _ h => Mm.pick h [0, 1, 2] (by decide)) ?_; intro _
        refine hh_i 3 rfl rfl rfl rfl (by kernel_rfl) (e_call0 rfl F52 rfl (fun w hw => r12_Next_ct _ w) rfl) (fun _ _ h => Mm.pick h [0, 1, 2] (by decide)) ?_; intro _
        refine hh_y 4 rfl rfl rfl rfl (by kernel_rfl) (by kernel_rfl) (by kernel_rfl) (fun _ h => Mm.pick h [0, 1, 2] (by decide)) (y_as (y_eqlarr Q41 rfl rfl rfl) (congrArg Value.bool (eqn_true (fun _ _ => rfl)))) ?_
        refine hh_y 5 rfl rfl rfl rfl (by kernel_rfl) (by kernel_rfl) (by kernel_rfl) (fun _ h => Mm.pick h [0, 1, 2] (by decide)) (y_move rfl rfl) ?_
        refine hh_yg 6 5 77 true rfl rfl rfl rfl rfl rfl (by kernel_rfl) (by kernel_rfl) (by kernel_rfl) (fun _ h => Mm.pick h [0, 1, 2] (by decide)) (y_ldw 1 rfl T41 rfl rfl) ?_
        refine hh_yg 7 5 77 true rfl rfl rfl rfl rfl rfl (by kernel_rfl) (by kernel_rfl) (by kernel_rfl) (fun _ h => Mm.pick h [0, 1, 2] (by decide)) (y_ldw 0 rfl T41 rfl rfl) ?_
        refine hh_yg 8 5 77 true rfl rfl rfl rfl rfl rfl (by kernel_rfl) (by kernel_rfl) (by kernel_rfl) (fun _ h => Mm.pick h [0, 1, 2] (by decide)) (y_as (y_eqlarr Q41 rfl rfl rfl) (congrArg Value.bool (eqn_true (at_eq kl nl n)))) ?_
        refine hh_y 9 rfl rfl rfl rfl (by kernel_rfl) (by kernel_rfl) (by kernel_rfl) (fun _ h => Mm.pick h [0, 1, 2] (by decide)) (y_pick (b := true) rfl rfl rfl) ?_
        refine hh_y 10 rfl rfl rfl rfl (by kernel_rfl) (by kernel_rfl) (by kernel_rfl) (fun _ h => Mm.pick h [0, 1, 2] (by decide)) (y_move rfl rfl) ?_
        refine hh_yg 11 10 82 true rfl rfl rfl rfl rfl rfl (by kernel_rfl) (by kernel_rfl) (by kernel_rfl) (fun _ h => Mm.pick h [0, 1, 2] (by decide)) (y_move rfl rfl) ?_
        refine hh_yg 12 10 82 true rfl rfl rfl rfl rfl rfl (by kernel_rfl) (by kernel_rfl) (by kernel_rfl) (fun _ h => Mm.pick h [0, 1, 2] (by decide)) (y_move rfl rfl) ?_
        refine hh_yg 13 10 82 true rfl rfl rfl rfl rfl rfl (by kernel_rfl) (by kernel_rfl) (by kernel_rfl) (fun _ h => Mm.pick h [0, 1, 2] (by decide)) (y_as (y_eqln rfl rfl rfl ) (congrArg Value.bool (decide_eq_true (atF_eq kl nl n)))) ?_
        refine hh_y 14 rfl rfl rfl rfl (by kernel_rfl) (by kernel_rfl) (by kernel_rfl) (fun _ h => Mm.pick h [0, 1, 2] (by decide)) (y_pick (b := true) rfl rfl rfl) ?_
        refine hh_y 15 rfl rfl rfl rfl (by kernel_rfl) (by kernel_rfl) (by kernel_rfl) (fun _ h => Mm.pick h [0, 1, 2] (by decide)) (y_move rfl rfl) ?_
        refine hh_yg 16 15 87 true rfl rfl rfl rfl rfl rfl (by kernel_rfl) (by kernel_rfl) (by kernel_rfl) (fun _ h => Mm.pick h [0, 1, 2] (by decide)) (y_move rfl rfl) ?_
        refine hh_yg 17 15 87 true rfl rfl rfl rfl rfl rfl (by kernel_rfl) (by kernel_rfl) (by kernel_rfl) (fun _ h => Mm.pick h [0, 1, 2] (by decide)) (y_move rfl rfl) ?_
        refine hh_ig 18 15 87 true rfl rfl rfl rfl rfl rfl (by kernel_rfl) (e_call0 rfl F32 rfl (fun w hw => r01_Same_t _ _ _ _ w (rd_nilb w hw) (rd_nilb w hw) (Nat.zero_le _) rfl) rfl) (fun _ _ h => Mm.pick h [0, 1, 2] (by decide)) ?_; intro _
        refine hh_y 19 rfl rfl rfl rfl (by kernel_rfl) (by kernel_rfl) (by kernel_rfl) (fun _ h => Mm.pick h [0, 1, 2] (by decide)) (y_pick (b := true) rfl rfl rfl) ?_
        refine hh_y 20 rfl rfl rfl rfl (by kernel_rfl) (by kernel_rfl) (by kernel_rfl) (fun _ h => Mm.pick h [0, 1, 2] (by decide)) (y_move rfl rfl) ?_
        refine hh_yg 21 20 92 true rfl rfl rfl rfl rfl rfl (by kernel_rfl) (by kernel_rfl) (by kernel_rfl) (fun _ h => Mm.pick h [0, 1, 2] (by decide)) (y_move rfl rfl) ?_
        refine hh_yg 22 20 92 true rfl rfl rfl rfl rfl rfl (by kernel_rfl) (by kernel_rfl) (by kernel_rfl) (fun _ h => Mm.pick h [0, 1, 2] (by decide)) (y_move rfl rfl) ?_
        refine hh_yg 23 20 92 true rfl rfl rfl rfl rfl rfl (by kernel_rfl) (by kernel_rfl) (by kernel_rfl) (fun _ h => Mm.pick h [0, 1, 2] (by decide)) (y_as (y_eqln rfl rfl rfl ) (congrArg Value.bool (decide_eq_true (atFn_eq kl nl)))) ?_
        refine hh_y 24 rfl rfl rfl rfl (by kernel_rfl) (by kernel_rfl) (by kernel_rfl) (fun _ h => Mm.pick h [0, 1, 2] (by decide)) (y_pick (b := true) rfl rfl rfl) ?_
        refine hh_y 25 rfl rfl rfl rfl (by kernel_rfl) (by kernel_rfl) (by kernel_rfl) (fun _ h => Mm.pick h [0, 1, 2] (by decide)) (y_move rfl rfl) ?_
        refine hh_ig 26 25 97 true rfl rfl rfl rfl rfl rfl (by kernel_rfl) (e_call0 rfl F46 rfl (fun w hw => law12_alive_ct w) rfl) (fun _ _ h => Mm.pick h [0, 1, 2] (by decide)) ?_; intro _
        refine hh_y 27 rfl rfl rfl rfl (by kernel_rfl) (by kernel_rfl) (by kernel_rfl) (fun _ h => Mm.pick h [0, 1, 2] (by decide)) (y_pick (b := true) rfl rfl rfl) ?_
        refine hh_y 28 rfl rfl rfl rfl (by kernel_rfl) (by kernel_rfl) (by kernel_rfl) (fun _ h => Mm.pick h [0, 1, 2] (by decide)) (y_assign rfl rfl) ?_
        refine hh_done (by kernel_rfl) ?_
        refine hq_then ?_
        refine hc_ret ?_
        exact hq_ret1 (()) rfl (rv_tmp rfl) rfl (fun _ h => Mm.pick h [] (by simp))

set_option maxHeartbeats 2000000 in
theorem ctrRows_np (kl nl : List UInt8) (kv nv : Value) (c : Nat → UInt8) (n : Int) (hb : -9223372036854775808 ≤ n) (hn0 : n < 0) (m : Nat) (hb2 : m ≤ 9223372036854775807) (w : World) (hk : Rd w kv (ls vb kl)) (hn : Rd w nv (ls vb nl)) : Ct0 Try.prog 11 #[kv, nv, .agg (ns vb 16 c).toArray, .int .i64 n, vi m] w (.bool true) := by
  refine ct0_of Try.func11 rfl Try.ntmps11 rfl ?_
  refine hc_seq ?_
  refine hc_region ?_
  refine hl_i rfl rfl rfl (e_boxa rfl rfl) ?_; intro g7
  refine hl_y rfl rfl rfl (y_assign rfl rfl) ?_
  refine hl_nil ?_
  refine hq_then ?_
  refine hc_seq ?_
  refine hc_seq ?_
  rcases Decidable.em (100 < kl.length) with k0 | k0
  · skip
    refine hc_region ?_
    refine hl_y rfl rfl rfl (y_move rfl rfl) ?_
    refine hl_y rfl rfl rfl (y_lenE (kl.length) rfl rfl S22 rfl (rdF hk) (by first | rfl | simp only [ls_len, ns_len] | (simp only [ls_len, ns_len]; omega))) ?_
    refine hl_y rfl rfl rfl (y_as (y_gtrn (q := 100) rfl rfl rfl ) (congrArg Value.bool (decide_eq_true (by omega)))) ?_
    refine hl_y rfl rfl rfl (y_move rfl rfl) ?_
    refine hl_no 3 22 false true rfl rfl rfl rfl rfl rfl ?_
    refine hl_no 3 22 false true rfl rfl rfl rfl rfl rfl ?_
    refine hl_no 3 22 false true rfl rfl rfl rfl rfl rfl ?_
    refine hl_y rfl rfl rfl (y_pick (b := true) rfl rfl rfl) ?_
    refine hl_y rfl rfl rfl (y_move rfl rfl) ?_
    refine hl_no 8 27 false true rfl rfl rfl rfl rfl rfl ?_
    refine hl_no 8 27 false true rfl rfl rfl rfl rfl rfl ?_
    refine hl_no 8 27 false true rfl rfl rfl rfl rfl rfl ?_
    refine hl_nou 11 30 true rfl rfl rfl rfl rfl ?_
    refine hl_nou 11 30 true rfl rfl rfl rfl rfl ?_
    refine hl_no 8 27 false true rfl rfl rfl rfl rfl rfl ?_
    refine hl_y rfl rfl rfl (y_pick (b := true) rfl rfl rfl) ?_
    refine hl_y rfl rfl rfl (y_move rfl rfl) ?_
    refine hl_no 16 35 false true rfl rfl rfl rfl rfl rfl ?_
    refine hl_no 16 35 false true rfl rfl rfl rfl rfl rfl ?_
    refine hl_no 16 35 false true rfl rfl rfl rfl rfl rfl ?_
    refine hl_nou 19 38 true rfl rfl rfl rfl rfl ?_
    refine hl_nou 19 38 true rfl rfl rfl rfl rfl ?_
    refine hl_no 16 35 false true rfl rfl rfl rfl rfl rfl ?_
    refine hl_y rfl rfl rfl (y_pick (b := true) rfl rfl rfl) ?_
    refine hl_nil ?_
    refine hq_then ?_
    refine hc_ifT rfl ?_
    refine hc_seq ?_
    refine hc_region ?_
    refine hl_i rfl rfl rfl (e_call0 rfl F46 rfl (fun w hw => law12_alive_ct w) rfl) ?_; intro _
    refine hl_y rfl rfl rfl (y_assign rfl rfl) ?_
    refine hl_nil ?_
    refine hq_then ?_
    refine hc_ret ?_
    exact hq_then_ret (hq_ret1 (()) rfl (rv_tmp rfl) rfl (fun _ h => Mm.pick h [] (by simp)))
  · skip
    rcases Decidable.em (100 < nl.length) with k1 | k1
    · skip
      refine hc_region ?_
      refine hl_y rfl rfl rfl (y_move rfl rfl) ?_
      refine hl_y rfl rfl rfl (y_lenE (kl.length) rfl rfl S22 rfl (rdF hk) (by first | rfl | simp only [ls_len, ns_len] | (simp only [ls_len, ns_len]; omega))) ?_
      refine hl_y rfl rfl rfl (y_as (y_gtrn (q := 100) rfl rfl rfl ) (congrArg Value.bool (decide_eq_false (by omega)))) ?_
      refine hl_y rfl rfl rfl (y_move rfl rfl) ?_
      refine hl_yg 3 22 false rfl rfl rfl rfl rfl (y_move rfl rfl) ?_
      refine hl_yg 3 22 false rfl rfl rfl rfl rfl (y_lenE (nl.length) rfl rfl S22 rfl (rdF hn) (by first | rfl | simp only [ls_len, ns_len] | (simp only [ls_len, ns_len]; omega))) ?_
      refine hl_yg 3 22 false rfl rfl rfl rfl rfl (y_as (y_gtrn (q := 100) rfl rfl rfl ) (congrArg Value.bool (decide_eq_true (by omega)))) ?_
      refine hl_y rfl rfl rfl (y_pick (b := false) rfl rfl rfl) ?_
      refine hl_y rfl rfl rfl (y_move rfl rfl) ?_
      refine hl_no 8 27 false true rfl rfl rfl rfl rfl rfl ?_
      refine hl_no 8 27 false true rfl rfl rfl rfl rfl rfl ?_
      refine hl_no 8 27 false true rfl rfl rfl rfl rfl rfl ?_
      refine hl_nou 11 30 true rfl rfl rfl rfl rfl ?_
      refine hl_nou 11 30 true rfl rfl rfl rfl rfl ?_
      refine hl_no 8 27 false true rfl rfl rfl rfl rfl rfl ?_
      refine hl_y rfl rfl rfl (y_pick (b := true) rfl rfl rfl) ?_
      refine hl_y rfl rfl rfl (y_move rfl rfl) ?_
      refine hl_no 16 35 false true rfl rfl rfl rfl rfl rfl ?_
      refine hl_no 16 35 false true rfl rfl rfl rfl rfl rfl ?_
      refine hl_no 16 35 false true rfl rfl rfl rfl rfl rfl ?_
      refine hl_nou 19 38 true rfl rfl rfl rfl rfl ?_
      refine hl_nou 19 38 true rfl rfl rfl rfl rfl ?_
      refine hl_no 16 35 false true rfl rfl rfl rfl rfl rfl ?_
      refine hl_y rfl rfl rfl (y_pick (b := true) rfl rfl rfl) ?_
      refine hl_nil ?_
      refine hq_then ?_
      refine hc_ifT rfl ?_
      refine hc_seq ?_
      refine hc_region ?_
      refine hl_i rfl rfl rfl (e_call0 rfl F46 rfl (fun w hw => law12_alive_ct w) rfl) ?_; intro _
      refine hl_y rfl rfl rfl (y_assign rfl rfl) ?_
      refine hl_nil ?_
      refine hq_then ?_
      refine hc_ret ?_
      exact hq_then_ret (hq_ret1 (()) rfl (rv_tmp rfl) rfl (fun _ h => Mm.pick h [] (by simp)))
    · skip
      rcases Decidable.em (200 < m) with k4 | k4
      · skip
        rcases Decidable.em (m ≤ 65536) with k5 | k5
        · skip
          refine hc_region ?_
          refine hl_y rfl rfl rfl (y_move rfl rfl) ?_
          refine hl_y rfl rfl rfl (y_lenE (kl.length) rfl rfl S22 rfl (rdF hk) (by first | rfl | simp only [ls_len, ns_len] | (simp only [ls_len, ns_len]; omega))) ?_
          refine hl_y rfl rfl rfl (y_as (y_gtrn (q := 100) rfl rfl rfl ) (congrArg Value.bool (decide_eq_false (by omega)))) ?_
          refine hl_y rfl rfl rfl (y_move rfl rfl) ?_
          refine hl_yg 3 22 false rfl rfl rfl rfl rfl (y_move rfl rfl) ?_
          refine hl_yg 3 22 false rfl rfl rfl rfl rfl (y_lenE (nl.length) rfl rfl S22 rfl (rdF hn) (by first | rfl | simp only [ls_len, ns_len] | (simp only [ls_len, ns_len]; omega))) ?_
          refine hl_yg 3 22 false rfl rfl rfl rfl rfl (y_as (y_gtrn (q := 100) rfl rfl rfl ) (congrArg Value.bool (decide_eq_false (by omega)))) ?_
          refine hl_y rfl rfl rfl (y_pick (b := false) rfl rfl rfl) ?_
          refine hl_y rfl rfl rfl (y_move rfl rfl) ?_
          refine hl_yg 8 27 false rfl rfl rfl rfl rfl (y_move rfl rfl) ?_
          refine hl_yg 8 27 false rfl rfl rfl rfl rfl (y_as (y_gtri (q := 300) rfl rfl rfl ) (congrArg Value.bool (decide_eq_false (by omega)))) ?_
          refine hl_yg 8 27 false rfl rfl rfl rfl rfl (y_move rfl rfl) ?_
          refine hl_no 11 30 true false rfl rfl rfl rfl rfl rfl ?_
          refine hl_no 11 30 true false rfl rfl rfl rfl rfl rfl ?_
          refine hl_yg 8 27 false rfl rfl rfl rfl rfl (y_pick (b := false) rfl rfl rfl) ?_
          refine hl_y rfl rfl rfl (y_pick (b := false) rfl rfl rfl) ?_
          refine hl_y rfl rfl rfl (y_move rfl rfl) ?_
          refine hl_yg 16 35 false rfl rfl rfl rfl rfl (y_move rfl rfl) ?_
          refine hl_yg 16 35 false rfl rfl rfl rfl rfl (y_as (y_gtrn (q := 200) rfl rfl rfl ) (congrArg Value.bool (decide_eq_true (by omega)))) ?_
          refine hl_yg 16 35 false rfl rfl rfl rfl rfl (y_move rfl rfl) ?_
          refine hl_yg 19 38 true rfl rfl rfl rfl rfl (y_move rfl rfl) ?_
          refine hl_yg 19 38 true rfl rfl rfl rfl rfl (y_as (y_leqn (q := 65536) rfl rfl rfl ) (congrArg Value.bool (decide_eq_true (by omega)))) ?_
          refine hl_yg 16 35 false rfl rfl rfl rfl rfl (y_pick (b := true) rfl rfl rfl) ?_
          refine hl_y rfl rfl rfl (y_pick (b := false) rfl rfl rfl) ?_
          refine hl_nil ?_
          refine hq_then ?_
          refine hc_ifT rfl ?_
          refine hc_seq ?_
          refine hc_region ?_
          refine hl_i rfl rfl rfl (e_call0 rfl F46 rfl (fun w hw => law12_alive_ct w) rfl) ?_; intro _
          refine hl_y rfl rfl rfl (y_assign rfl rfl) ?_
          refine hl_nil ?_
          refine hq_then ?_
          refine hc_ret ?_
          exact hq_then_ret (hq_ret1 (()) rfl (rv_tmp rfl) rfl (fun _ h => Mm.pick h [] (by simp)))
        · skip
          refine hc_region ?_
          refine hl_y rfl rfl rfl (y_move rfl rfl) ?_
          refine hl_y rfl rfl rfl (y_lenE (kl.length) rfl rfl S22 rfl (rdF hk) (by first | rfl | simp only [ls_len, ns_len] | (simp only [ls_len, ns_len]; omega))) ?_
          refine hl_y rfl rfl rfl (y_as (y_gtrn (q := 100) rfl rfl rfl ) (congrArg Value.bool (decide_eq_false (by omega)))) ?_
          refine hl_y rfl rfl rfl (y_move rfl rfl) ?_
          refine hl_yg 3 22 false rfl rfl rfl rfl rfl (y_move rfl rfl) ?_
          refine hl_yg 3 22 false rfl rfl rfl rfl rfl (y_lenE (nl.length) rfl rfl S22 rfl (rdF hn) (by first | rfl | simp only [ls_len, ns_len] | (simp only [ls_len, ns_len]; omega))) ?_
          refine hl_yg 3 22 false rfl rfl rfl rfl rfl (y_as (y_gtrn (q := 100) rfl rfl rfl ) (congrArg Value.bool (decide_eq_false (by omega)))) ?_
          refine hl_y rfl rfl rfl (y_pick (b := false) rfl rfl rfl) ?_
          refine hl_y rfl rfl rfl (y_move rfl rfl) ?_
          refine hl_yg 8 27 false rfl rfl rfl rfl rfl (y_move rfl rfl) ?_
          refine hl_yg 8 27 false rfl rfl rfl rfl rfl (y_as (y_gtri (q := 300) rfl rfl rfl ) (congrArg Value.bool (decide_eq_false (by omega)))) ?_
          refine hl_yg 8 27 false rfl rfl rfl rfl rfl (y_move rfl rfl) ?_
          refine hl_no 11 30 true false rfl rfl rfl rfl rfl rfl ?_
          refine hl_no 11 30 true false rfl rfl rfl rfl rfl rfl ?_
          refine hl_yg 8 27 false rfl rfl rfl rfl rfl (y_pick (b := false) rfl rfl rfl) ?_
          refine hl_y rfl rfl rfl (y_pick (b := false) rfl rfl rfl) ?_
          refine hl_y rfl rfl rfl (y_move rfl rfl) ?_
          refine hl_yg 16 35 false rfl rfl rfl rfl rfl (y_move rfl rfl) ?_
          refine hl_yg 16 35 false rfl rfl rfl rfl rfl (y_as (y_gtrn (q := 200) rfl rfl rfl ) (congrArg Value.bool (decide_eq_true (by omega)))) ?_
          refine hl_yg 16 35 false rfl rfl rfl rfl rfl (y_move rfl rfl) ?_
          refine hl_yg 19 38 true rfl rfl rfl rfl rfl (y_move rfl rfl) ?_
          refine hl_yg 19 38 true rfl rfl rfl rfl rfl (y_as (y_leqn (q := 65536) rfl rfl rfl ) (congrArg Value.bool (decide_eq_false (by omega)))) ?_
          refine hl_yg 16 35 false rfl rfl rfl rfl rfl (y_pick (b := true) rfl rfl rfl) ?_
          refine hl_y rfl rfl rfl (y_pick (b := false) rfl rfl rfl) ?_
          refine hl_nil ?_
          refine hq_then ?_
          refine hc_ifF rfl ?_
          refine hc_skip ?_
          refine hq_then ?_
          refine hc_seq ?_
          refine hc_region ?_
          refine hl_y rfl rfl rfl (y_move rfl rfl) ?_
          refine hl_y rfl rfl rfl (y_move rfl rfl) ?_
          refine hl_y rfl rfl rfl (y_move rfl rfl) ?_
          refine hl_i rfl rfl rfl (e_call0 rfl F47 rfl (fun w hw => ctr_At_neg _ _ _ _ _ (by omega) (by omega) w ((rdF hk) w hw) ((rdF hn) w hw)) rfl) ?_; intro _
          refine hl_y rfl rfl rfl (y_move rfl rfl) ?_
          refine hl_y rfl rfl rfl (y_extract rfl rfl rfl) ?_
          refine hl_y rfl rfl rfl (y_extract rfl rfl rfl) ?_
          refine hl_i rfl rfl rfl (e_alloc rfl Z41) ?_; intro g11
          refine hl_i0 rfl rfl (e_stw 0 rfl T41.2 rfl rfl rfl (ns_oneb _ _)) ?_; intro _
          refine hl_y rfl rfl rfl (y_assign rfl rfl) ?_
          refine hl_nil ?_
          refine hq_then ?_
          refine hc_seq ?_
          refine hc_region ?_
          refine hl_y rfl rfl rfl (y_move rfl rfl) ?_
          refine hl_y rfl rfl rfl (y_move rfl rfl) ?_
          refine hl_y rfl rfl rfl (y_move rfl rfl) ?_
          refine hl_i rfl rfl rfl (e_call0 rfl F48 rfl (fun w hw => r12_At_neg _ _ _ _ _ (by omega) (by omega) w ((rdF hk) w hw) ((rdF hn) w hw)) rfl) ?_; intro _
          refine hl_y rfl rfl rfl (y_move rfl rfl) ?_
          refine hl_y rfl rfl rfl (y_extract rfl rfl rfl) ?_
          refine hl_y rfl rfl rfl (y_extract rfl rfl rfl) ?_
          refine hl_i rfl rfl rfl (e_alloc rfl Z41) ?_; intro g13
          refine hl_i0 rfl rfl (e_stw 0 rfl T41.2 rfl rfl rfl (ns_oneb _ _)) ?_; intro _
          refine hl_y rfl rfl rfl (y_assign rfl rfl) ?_
          refine hl_nil ?_
          refine hq_then ?_
          refine hc_seq ?_
          refine hc_region ?_
          refine hl_y rfl rfl rfl (y_move rfl rfl) ?_
          refine hl_y rfl rfl rfl (y_move rfl rfl) ?_
          refine hl_y rfl rfl rfl (y_move rfl rfl) ?_
          refine hl_i rfl rfl rfl (e_call rfl F49 rfl (fun w hw => ctr_Stream_ct _ _ _ _ m (by omega) w ((rdF hk) w hw) ((rdF hn) w hw)) rfl) ?_; intro y62
          refine hl_y rfl rfl rfl (y_move rfl rfl) ?_
          refine hl_y rfl rfl rfl (y_extract rfl rfl rfl) ?_
          refine hl_y rfl rfl rfl (y_extract rfl rfl rfl) ?_
          refine hl_y rfl rfl rfl (y_assign rfl rfl) ?_
          refine hl_y rfl rfl rfl (y_assign rfl rfl) ?_
          refine hl_nil ?_
          refine hq_then ?_
          refine hc_seq ?_
          refine hc_region ?_
          refine hl_y rfl rfl rfl (y_move rfl rfl) ?_
          refine hl_y rfl rfl rfl (y_move rfl rfl) ?_
          refine hl_y rfl rfl rfl (y_move rfl rfl) ?_
          refine hl_i rfl rfl rfl (e_call rfl F50 rfl (fun w hw => r12_Stream_ct _ _ _ _ m (by omega) w ((rdF hk) w hw) ((rdF hn) w hw)) rfl) ?_; intro y69
          refine hl_y rfl rfl rfl (y_move rfl rfl) ?_
          refine hl_y rfl rfl rfl (y_extract rfl rfl rfl) ?_
          refine hl_y rfl rfl rfl (y_extract rfl rfl rfl) ?_
          refine hl_y rfl rfl rfl (y_assign rfl rfl) ?_
          refine hl_y rfl rfl rfl (y_assign rfl rfl) ?_
          refine hl_nil ?_
          refine hq_then ?_
          refine hc_seq ?_
          refine hc_drawP [0, 1, 2, 3, 4] follows_mixed ?_
          refine hh_y 0 rfl rfl rfl rfl (by kernel_rfl) (by kernel_rfl) (by kernel_rfl) (fun _ h => Mm.pick h [0, 1, 2, 3, 4] (by decide)) (y_ldw 4 rfl T41 rfl rfl) ?_
          refine hh_y 2 rfl rfl rfl rfl (by kernel_rfl) (by kernel_rfl) (by kernel_rfl) (fun _ h => Mm.pick h [0, 1, 2, 3, 4] (by decide)) (y_ldw 4 rfl T41 rfl rfl) ?_
          refine hh_i 1 rfl rfl rfl rfl (by kernel_rfl) (e_call0 rfl F51 rfl (fun w hw => ctr_Next_ct _ w) rfl) (fun _ _ h => Mm.pick h [0, 1, 2, 3, 4] (by decide)) ?_; intro _
          refine hh_i 3 rfl rfl rfl rfl (by kernel_rfl) (e_call0 rfl F52 rfl (fun w hw => r12_Next_ct _ w) rfl) (fun _ _ h => Mm.pick h [0, 1, 2, 3, 4] (by decide)) ?_; intro _
          refine hh_y 4 rfl rfl rfl rfl (by kernel_rfl) (by kernel_rfl) (by kernel_rfl) (fun _ h => Mm.pick h [0, 1, 2, 3, 4] (by decide)) (y_as (y_eqlarr Q41 rfl rfl rfl) (congrArg Value.bool (eqn_true (fun _ _ => rfl)))) ?_
          refine hh_y 5 rfl rfl rfl rfl (by kernel_rfl) (by kernel_rfl) (by kernel_rfl) (fun _ h => Mm.pick h [0, 1, 2, 3, 4] (by decide)) (y_move rfl rfl) ?_
          refine hh_yg 6 5 77 true rfl rfl rfl rfl rfl rfl (by kernel_rfl) (by kernel_rfl) (by kernel_rfl) (fun _ h => Mm.pick h [0, 1, 2, 3, 4] (by decide)) (y_ldw 3 rfl T41 rfl rfl) ?_
          refine hh_yg 7 5 77 true rfl rfl rfl rfl rfl rfl (by kernel_rfl) (by kernel_rfl) (by kernel_rfl) (fun _ h => Mm.pick h [0, 1, 2, 3, 4] (by decide)) (y_ldw 2 rfl T41 rfl rfl) ?_
          refine hh_yg 8 5 77 true rfl rfl rfl rfl rfl rfl (by kernel_rfl) (by kernel_rfl) (by kernel_rfl) (fun _ h => Mm.pick h [0, 1, 2, 3, 4] (by decide)) (y_as (y_eqlarr Q41 rfl rfl rfl) (congrArg Value.bool (eqn_true (fun _ _ => rfl)))) ?_
          refine hh_y 9 rfl rfl rfl rfl (by kernel_rfl) (by kernel_rfl) (by kernel_rfl) (fun _ h => Mm.pick h [0, 1, 2, 3, 4] (by decide)) (y_pick (b := true) rfl rfl rfl) ?_
          refine hh_y 10 rfl rfl rfl rfl (by kernel_rfl) (by kernel_rfl) (by kernel_rfl) (fun _ h => Mm.pick h [0, 1, 2, 3, 4] (by decide)) (y_move rfl rfl) ?_
          refine hh_yg 11 10 82 true rfl rfl rfl rfl rfl rfl (by kernel_rfl) (by kernel_rfl) (by kernel_rfl) (fun _ h => Mm.pick h [0, 1, 2, 3, 4] (by decide)) (y_move rfl rfl) ?_
          refine hh_yg 12 10 82 true rfl rfl rfl rfl rfl rfl (by kernel_rfl) (by kernel_rfl) (by kernel_rfl) (fun _ h => Mm.pick h [0, 1, 2, 3, 4] (by decide)) (y_move rfl rfl) ?_
          refine hh_yg 13 10 82 true rfl rfl rfl rfl rfl rfl (by kernel_rfl) (by kernel_rfl) (by kernel_rfl) (fun _ h => Mm.pick h [0, 1, 2, 3, 4] (by decide)) (y_as (y_eqln rfl rfl rfl ) (congrArg Value.bool (decide_eq_true (atFn_eq kl nl)))) ?_
          refine hh_y 14 rfl rfl rfl rfl (by kernel_rfl) (by kernel_rfl) (by kernel_rfl) (fun _ h => Mm.pick h [0, 1, 2, 3, 4] (by decide)) (y_pick (b := true) rfl rfl rfl) ?_
          refine hh_y 15 rfl rfl rfl rfl (by kernel_rfl) (by kernel_rfl) (by kernel_rfl) (fun _ h => Mm.pick h [0, 1, 2, 3, 4] (by decide)) (y_move rfl rfl) ?_
          refine hh_yg 16 15 87 true rfl rfl rfl rfl rfl rfl (by kernel_rfl) (by kernel_rfl) (by kernel_rfl) (fun _ h => Mm.pick h [0, 1, 2, 3, 4] (by decide)) (y_move rfl rfl) ?_
          refine hh_yg 17 15 87 true rfl rfl rfl rfl rfl rfl (by kernel_rfl) (by kernel_rfl) (by kernel_rfl) (fun _ h => Mm.pick h [0, 1, 2, 3, 4] (by decide)) (y_move rfl rfl) ?_
          refine hh_ig 18 15 87 true rfl rfl rfl rfl rfl rfl (by kernel_rfl) (e_call0 rfl F32 rfl (fun w hw => r01_Same_t _ _ _ _ w ((rdR3 1 rfl (strN_le _ _ _)) w hw) ((rdR2 0 rfl (strNR_le _ _ _)) w hw) (str_hm (by omega)) (str_eq kl nl m)) rfl) (fun _ _ h => Mm.pick h [0, 1, 2, 3, 4] (by decide)) ?_; intro _
          refine hh_y 19 rfl rfl rfl rfl (by kernel_rfl) (by kernel_rfl) (by kernel_rfl) (fun _ h => Mm.pick h [0, 1, 2, 3, 4] (by decide)) (y_pick (b := true) rfl rfl rfl) ?_
          refine hh_y 20 rfl rfl rfl rfl (by kernel_rfl) (by kernel_rfl) (by kernel_rfl) (fun _ h => Mm.pick h [0, 1, 2, 3, 4] (by decide)) (y_move rfl rfl) ?_
          refine hh_yg 21 20 92 true rfl rfl rfl rfl rfl rfl (by kernel_rfl) (by kernel_rfl) (by kernel_rfl) (fun _ h => Mm.pick h [0, 1, 2, 3, 4] (by decide)) (y_move rfl rfl) ?_
          refine hh_yg 22 20 92 true rfl rfl rfl rfl rfl rfl (by kernel_rfl) (by kernel_rfl) (by kernel_rfl) (fun _ h => Mm.pick h [0, 1, 2, 3, 4] (by decide)) (y_move rfl rfl) ?_
          refine hh_yg 23 20 92 true rfl rfl rfl rfl rfl rfl (by kernel_rfl) (by kernel_rfl) (by kernel_rfl) (fun _ h => Mm.pick h [0, 1, 2, 3, 4] (by decide)) (y_as (y_eqln rfl rfl rfl ) (congrArg Value.bool (decide_eq_true (strF_eq kl nl m)))) ?_
          refine hh_y 24 rfl rfl rfl rfl (by kernel_rfl) (by kernel_rfl) (by kernel_rfl) (fun _ h => Mm.pick h [0, 1, 2, 3, 4] (by decide)) (y_pick (b := true) rfl rfl rfl) ?_
          refine hh_y 25 rfl rfl rfl rfl (by kernel_rfl) (by kernel_rfl) (by kernel_rfl) (fun _ h => Mm.pick h [0, 1, 2, 3, 4] (by decide)) (y_move rfl rfl) ?_
          refine hh_ig 26 25 97 true rfl rfl rfl rfl rfl rfl (by kernel_rfl) (e_call0 rfl F46 rfl (fun w hw => law12_alive_ct w) rfl) (fun _ _ h => Mm.pick h [0, 1, 2, 3, 4] (by decide)) ?_; intro _
          refine hh_y 27 rfl rfl rfl rfl (by kernel_rfl) (by kernel_rfl) (by kernel_rfl) (fun _ h => Mm.pick h [0, 1, 2, 3, 4] (by decide)) (y_pick (b := true) rfl rfl rfl) ?_
          refine hh_y 28 rfl rfl rfl rfl (by kernel_rfl) (by kernel_rfl) (by kernel_rfl) (fun _ h => Mm.pick h [0, 1, 2, 3, 4] (by decide)) (y_assign rfl rfl) ?_
          refine hh_done (by kernel_rfl) ?_
          refine hq_then ?_
          refine hc_ret ?_
          exact hq_ret1 (()) rfl (rv_tmp rfl) rfl (fun _ h => Mm.pick h [] (by simp))
      · skip
        refine hc_region ?_
        refine hl_y rfl rfl rfl (y_move rfl rfl) ?_
        refine hl_y rfl rfl rfl (y_lenE (kl.length) rfl rfl S22 rfl (rdF hk) (by first | rfl | simp only [ls_len, ns_len] | (simp only [ls_len, ns_len]; omega))) ?_
        refine hl_y rfl rfl rfl (y_as (y_gtrn (q := 100) rfl rfl rfl ) (congrArg Value.bool (decide_eq_false (by omega)))) ?_
        refine hl_y rfl rfl rfl (y_move rfl rfl) ?_
        refine hl_yg 3 22 false rfl rfl rfl rfl rfl (y_move rfl rfl) ?_
        refine hl_yg 3 22 false rfl rfl rfl rfl rfl (y_lenE (nl.length) rfl rfl S22 rfl (rdF hn) (by first | rfl | simp only [ls_len, ns_len] | (simp only [ls_len, ns_len]; omega))) ?_
        refine hl_yg 3 22 false rfl rfl rfl rfl rfl (y_as (y_gtrn (q := 100) rfl rfl rfl ) (congrArg Value.bool (decide_eq_false (by omega)))) ?_
        refine hl_y rfl rfl rfl (y_pick (b := false) rfl rfl rfl) ?_
        refine hl_y rfl rfl rfl (y_move rfl rfl) ?_
        refine hl_yg 8 27 false rfl rfl rfl rfl rfl (y_move rfl rfl) ?_
        refine hl_yg 8 27 false rfl rfl rfl rfl rfl (y_as (y_gtri (q := 300) rfl rfl rfl ) (congrArg Value.bool (decide_eq_false (by omega)))) ?_
        refine hl_yg 8 27 false rfl rfl rfl rfl rfl (y_move rfl rfl) ?_
        refine hl_no 11 30 true false rfl rfl rfl rfl rfl rfl ?_
        refine hl_no 11 30 true false rfl rfl rfl rfl rfl rfl ?_
        refine hl_yg 8 27 false rfl rfl rfl rfl rfl (y_pick (b := false) rfl rfl rfl) ?_
        refine hl_y rfl rfl rfl (y_pick (b := false) rfl rfl rfl) ?_
        refine hl_y rfl rfl rfl (y_move rfl rfl) ?_
        refine hl_yg 16 35 false rfl rfl rfl rfl rfl (y_move rfl rfl) ?_
        refine hl_yg 16 35 false rfl rfl rfl rfl rfl (y_as (y_gtrn (q := 200) rfl rfl rfl ) (congrArg Value.bool (decide_eq_false (by omega)))) ?_
        refine hl_yg 16 35 false rfl rfl rfl rfl rfl (y_move rfl rfl) ?_
        refine hl_no 19 38 true false rfl rfl rfl rfl rfl rfl ?_
        refine hl_no 19 38 true false rfl rfl rfl rfl rfl rfl ?_
        refine hl_yg 16 35 false rfl rfl rfl rfl rfl (y_pick (b := false) rfl rfl rfl) ?_
        refine hl_y rfl rfl rfl (y_pick (b := false) rfl rfl rfl) ?_
        refine hl_nil ?_
        refine hq_then ?_
        refine hc_ifF rfl ?_
        refine hc_skip ?_
        refine hq_then ?_
        refine hc_seq ?_
        refine hc_region ?_
        refine hl_y rfl rfl rfl (y_move rfl rfl) ?_
        refine hl_y rfl rfl rfl (y_move rfl rfl) ?_
        refine hl_y rfl rfl rfl (y_move rfl rfl) ?_
        refine hl_i rfl rfl rfl (e_call0 rfl F47 rfl (fun w hw => ctr_At_neg _ _ _ _ _ (by omega) (by omega) w ((rdF hk) w hw) ((rdF hn) w hw)) rfl) ?_; intro _
        refine hl_y rfl rfl rfl (y_move rfl rfl) ?_
        refine hl_y rfl rfl rfl (y_extract rfl rfl rfl) ?_
        refine hl_y rfl rfl rfl (y_extract rfl rfl rfl) ?_
        refine hl_i rfl rfl rfl (e_alloc rfl Z41) ?_; intro g11
        refine hl_i0 rfl rfl (e_stw 0 rfl T41.2 rfl rfl rfl (ns_oneb _ _)) ?_; intro _
        refine hl_y rfl rfl rfl (y_assign rfl rfl) ?_
        refine hl_nil ?_
        refine hq_then ?_
        refine hc_seq ?_
        refine hc_region ?_
        refine hl_y rfl rfl rfl (y_move rfl rfl) ?_
        refine hl_y rfl rfl rfl (y_move rfl rfl) ?_
        refine hl_y rfl rfl rfl (y_move rfl rfl) ?_
        refine hl_i rfl rfl rfl (e_call0 rfl F48 rfl (fun w hw => r12_At_neg _ _ _ _ _ (by omega) (by omega) w ((rdF hk) w hw) ((rdF hn) w hw)) rfl) ?_; intro _
        refine hl_y rfl rfl rfl (y_move rfl rfl) ?_
        refine hl_y rfl rfl rfl (y_extract rfl rfl rfl) ?_
        refine hl_y rfl rfl rfl (y_extract rfl rfl rfl) ?_
        refine hl_i rfl rfl rfl (e_alloc rfl Z41) ?_; intro g13
        refine hl_i0 rfl rfl (e_stw 0 rfl T41.2 rfl rfl rfl (ns_oneb _ _)) ?_; intro _
        refine hl_y rfl rfl rfl (y_assign rfl rfl) ?_
        refine hl_nil ?_
        refine hq_then ?_
        refine hc_seq ?_
        refine hc_region ?_
        refine hl_y rfl rfl rfl (y_move rfl rfl) ?_
        refine hl_y rfl rfl rfl (y_move rfl rfl) ?_
        refine hl_y rfl rfl rfl (y_move rfl rfl) ?_
        refine hl_i rfl rfl rfl (e_call rfl F49 rfl (fun w hw => ctr_Stream_ct _ _ _ _ m (by omega) w ((rdF hk) w hw) ((rdF hn) w hw)) rfl) ?_; intro y62
        refine hl_y rfl rfl rfl (y_move rfl rfl) ?_
        refine hl_y rfl rfl rfl (y_extract rfl rfl rfl) ?_
        refine hl_y rfl rfl rfl (y_extract rfl rfl rfl) ?_
        refine hl_y rfl rfl rfl (y_assign rfl rfl) ?_
        refine hl_y rfl rfl rfl (y_assign rfl rfl) ?_
        refine hl_nil ?_
        refine hq_then ?_
        refine hc_seq ?_
        refine hc_region ?_
        refine hl_y rfl rfl rfl (y_move rfl rfl) ?_
        refine hl_y rfl rfl rfl (y_move rfl rfl) ?_
        refine hl_y rfl rfl rfl (y_move rfl rfl) ?_
        refine hl_i rfl rfl rfl (e_call rfl F50 rfl (fun w hw => r12_Stream_ct _ _ _ _ m (by omega) w ((rdF hk) w hw) ((rdF hn) w hw)) rfl) ?_; intro y69
        refine hl_y rfl rfl rfl (y_move rfl rfl) ?_
        refine hl_y rfl rfl rfl (y_extract rfl rfl rfl) ?_
        refine hl_y rfl rfl rfl (y_extract rfl rfl rfl) ?_
        refine hl_y rfl rfl rfl (y_assign rfl rfl) ?_
        refine hl_y rfl rfl rfl (y_assign rfl rfl) ?_
        refine hl_nil ?_
        refine hq_then ?_
        refine hc_seq ?_
        refine hc_drawP [0, 1, 2, 3, 4] follows_mixed ?_
        refine hh_y 0 rfl rfl rfl rfl (by kernel_rfl) (by kernel_rfl) (by kernel_rfl) (fun _ h => Mm.pick h [0, 1, 2, 3, 4] (by decide)) (y_ldw 4 rfl T41 rfl rfl) ?_
        refine hh_y 2 rfl rfl rfl rfl (by kernel_rfl) (by kernel_rfl) (by kernel_rfl) (fun _ h => Mm.pick h [0, 1, 2, 3, 4] (by decide)) (y_ldw 4 rfl T41 rfl rfl) ?_
        refine hh_i 1 rfl rfl rfl rfl (by kernel_rfl) (e_call0 rfl F51 rfl (fun w hw => ctr_Next_ct _ w) rfl) (fun _ _ h => Mm.pick h [0, 1, 2, 3, 4] (by decide)) ?_; intro _
        refine hh_i 3 rfl rfl rfl rfl (by kernel_rfl) (e_call0 rfl F52 rfl (fun w hw => r12_Next_ct _ w) rfl) (fun _ _ h => Mm.pick h [0, 1, 2, 3, 4] (by decide)) ?_; intro _
        refine hh_y 4 rfl rfl rfl rfl (by kernel_rfl) (by kernel_rfl) (by kernel_rfl) (fun _ h => Mm.pick h [0, 1, 2, 3, 4] (by decide)) (y_as (y_eqlarr Q41 rfl rfl rfl) (congrArg Value.bool (eqn_true (fun _ _ => rfl)))) ?_
        refine hh_y 5 rfl rfl rfl rfl (by kernel_rfl) (by kernel_rfl) (by kernel_rfl) (fun _ h => Mm.pick h [0, 1, 2, 3, 4] (by decide)) (y_move rfl rfl) ?_
        refine hh_yg 6 5 77 true rfl rfl rfl rfl rfl rfl (by kernel_rfl) (by kernel_rfl) (by kernel_rfl) (fun _ h => Mm.pick h [0, 1, 2, 3, 4] (by decide)) (y_ldw 3 rfl T41 rfl rfl) ?_
        refine hh_yg 7 5 77 true rfl rfl rfl rfl rfl rfl (by kernel_rfl) (by kernel_rfl) (by kernel_rfl) (fun _ h => Mm.pick h [0, 1, 2, 3, 4] (by decide)) (y_ldw 2 rfl T41 rfl rfl) ?_
        refine hh_yg 8 5 77 true rfl rfl rfl rfl rfl rfl (by kernel_rfl) (by kernel_rfl) (by kernel_rfl) (fun _ h => Mm.pick h [0, 1, 2, 3, 4] (by decide)) (y_as (y_eqlarr Q41 rfl rfl rfl) (congrArg Value.bool (eqn_true (fun _ _ => rfl)))) ?_
        refine hh_y 9 rfl rfl rfl rfl (by kernel_rfl) (by kernel_rfl) (by kernel_rfl) (fun _ h => Mm.pick h [0, 1, 2, 3, 4] (by decide)) (y_pick (b := true) rfl rfl rfl) ?_
        refine hh_y 10 rfl rfl rfl rfl (by kernel_rfl) (by kernel_rfl) (by kernel_rfl) (fun _ h => Mm.pick h [0, 1, 2, 3, 4] (by decide)) (y_move rfl rfl) ?_
        refine hh_yg 11 10 82 true rfl rfl rfl rfl rfl rfl (by kernel_rfl) (by kernel_rfl) (by kernel_rfl) (fun _ h => Mm.pick h [0, 1, 2, 3, 4] (by decide)) (y_move rfl rfl) ?_
        refine hh_yg 12 10 82 true rfl rfl rfl rfl rfl rfl (by kernel_rfl) (by kernel_rfl) (by kernel_rfl) (fun _ h => Mm.pick h [0, 1, 2, 3, 4] (by decide)) (y_move rfl rfl) ?_
        refine hh_yg 13 10 82 true rfl rfl rfl rfl rfl rfl (by kernel_rfl) (by kernel_rfl) (by kernel_rfl) (fun _ h => Mm.pick h [0, 1, 2, 3, 4] (by decide)) (y_as (y_eqln rfl rfl rfl ) (congrArg Value.bool (decide_eq_true (atFn_eq kl nl)))) ?_
        refine hh_y 14 rfl rfl rfl rfl (by kernel_rfl) (by kernel_rfl) (by kernel_rfl) (fun _ h => Mm.pick h [0, 1, 2, 3, 4] (by decide)) (y_pick (b := true) rfl rfl rfl) ?_
        refine hh_y 15 rfl rfl rfl rfl (by kernel_rfl) (by kernel_rfl) (by kernel_rfl) (fun _ h => Mm.pick h [0, 1, 2, 3, 4] (by decide)) (y_move rfl rfl) ?_
        refine hh_yg 16 15 87 true rfl rfl rfl rfl rfl rfl (by kernel_rfl) (by kernel_rfl) (by kernel_rfl) (fun _ h => Mm.pick h [0, 1, 2, 3, 4] (by decide)) (y_move rfl rfl) ?_
        refine hh_yg 17 15 87 true rfl rfl rfl rfl rfl rfl (by kernel_rfl) (by kernel_rfl) (by kernel_rfl) (fun _ h => Mm.pick h [0, 1, 2, 3, 4] (by decide)) (y_move rfl rfl) ?_
        refine hh_ig 18 15 87 true rfl rfl rfl rfl rfl rfl (by kernel_rfl) (e_call0 rfl F32 rfl (fun w hw => r01_Same_t _ _ _ _ w ((rdR3 1 rfl (strN_le _ _ _)) w hw) ((rdR2 0 rfl (strNR_le _ _ _)) w hw) (str_hm (by omega)) (str_eq kl nl m)) rfl) (fun _ _ h => Mm.pick h [0, 1, 2, 3, 4] (by decide)) ?_; intro _
        refine hh_y 19 rfl rfl rfl rfl (by kernel_rfl) (by kernel_rfl) (by kernel_rfl) (fun _ h => Mm.pick h [0, 1, 2, 3, 4] (by decide)) (y_pick (b := true) rfl rfl rfl) ?_
        refine hh_y 20 rfl rfl rfl rfl (by kernel_rfl) (by kernel_rfl) (by kernel_rfl) (fun _ h => Mm.pick h [0, 1, 2, 3, 4] (by decide)) (y_move rfl rfl) ?_
        refine hh_yg 21 20 92 true rfl rfl rfl rfl rfl rfl (by kernel_rfl) (by kernel_rfl) (by kernel_rfl) (fun _ h => Mm.pick h [0, 1, 2, 3, 4] (by decide)) (y_move rfl rfl) ?_
        refine hh_yg 22 20 92 true rfl rfl rfl rfl rfl rfl (by kernel_rfl) (by kernel_rfl) (by kernel_rfl) (fun _ h => Mm.pick h [0, 1, 2, 3, 4] (by decide)) (y_move rfl rfl) ?_
        refine hh_yg 23 20 92 true rfl rfl rfl rfl rfl rfl (by kernel_rfl) (by kernel_rfl) (by kernel_rfl) (fun _ h => Mm.pick h [0, 1, 2, 3, 4] (by decide)) (y_as (y_eqln rfl rfl rfl ) (congrArg Value.bool (decide_eq_true (strF_eq kl nl m)))) ?_
        refine hh_y 24 rfl rfl rfl rfl (by kernel_rfl) (by kernel_rfl) (by kernel_rfl) (fun _ h => Mm.pick h [0, 1, 2, 3, 4] (by decide)) (y_pick (b := true) rfl rfl rfl) ?_
        refine hh_y 25 rfl rfl rfl rfl (by kernel_rfl) (by kernel_rfl) (by kernel_rfl) (fun _ h => Mm.pick h [0, 1, 2, 3, 4] (by decide)) (y_move rfl rfl) ?_
        refine hh_ig 26 25 97 true rfl rfl rfl rfl rfl rfl (by kernel_rfl) (e_call0 rfl F46 rfl (fun w hw => law12_alive_ct w) rfl) (fun _ _ h => Mm.pick h [0, 1, 2, 3, 4] (by decide)) ?_; intro _
        refine hh_y 27 rfl rfl rfl rfl (by kernel_rfl) (by kernel_rfl) (by kernel_rfl) (fun _ h => Mm.pick h [0, 1, 2, 3, 4] (by decide)) (y_pick (b := true) rfl rfl rfl) ?_
        refine hh_y 28 rfl rfl rfl rfl (by kernel_rfl) (by kernel_rfl) (by kernel_rfl) (fun _ h => Mm.pick h [0, 1, 2, 3, 4] (by decide)) (y_assign rfl rfl) ?_
        refine hh_done (by kernel_rfl) ?_
        refine hq_then ?_
        refine hc_ret ?_
        exact hq_ret1 (()) rfl (rv_tmp rfl) rfl (fun _ h => Mm.pick h [] (by simp))

set_option maxHeartbeats 2000000 in
theorem ctrRows_nn (kl nl : List UInt8) (kv nv : Value) (c : Nat → UInt8) (n : Int) (hb : -9223372036854775808 ≤ n) (hn0 : n < 0) (m : Int) (hb2 : -9223372036854775808 ≤ m) (hm0 : m < 0) (w : World) (hk : Rd w kv (ls vb kl)) (hn : Rd w nv (ls vb nl)) : Ct0 Try.prog 11 #[kv, nv, .agg (ns vb 16 c).toArray, .int .i64 n, .int .i64 m] w (.bool true) := by
  refine ct0_of Try.func11 rfl Try.ntmps11 rfl ?_
  refine hc_seq ?_
  refine hc_region ?_
  refine hl_i rfl rfl rfl (e_boxa rfl rfl) ?_; intro g7
  refine hl_y rfl rfl rfl (y_assign rfl rfl) ?_
  refine hl_nil ?_
  refine hq_then ?_
  refine hc_seq ?_
  refine hc_seq ?_
  rcases Decidable.em (100 < kl.length) with k0 | k0
  · skip
    refine hc_region ?_
    refine hl_y rfl rfl rfl (y_move rfl rfl) ?_
    refine hl_y rfl rfl rfl (y_lenE (kl.length) rfl rfl S22 rfl (rdF hk) (by first | rfl | simp only [ls_len, ns_len] | (simp only [ls_len, ns_len]; omega))) ?_
    refine hl_y rfl rfl rfl (y_as (y_gtrn (q := 100) rfl rfl rfl ) (congrArg Value.bool (decide_eq_true (by omega)))) ?_
    refine hl_y rfl rfl rfl (y_move rfl rfl) ?_
    refine hl_no 3 22 false true rfl rfl rfl rfl rfl rfl ?_
    refine hl_no 3 22 false true rfl rfl rfl rfl rfl rfl ?_
    refine hl_no 3 22 false true rfl rfl rfl rfl rfl rfl ?_
    refine hl_y rfl rfl rfl (y_pick (b := true) rfl rfl rfl) ?_
    refine hl_y rfl rfl rfl (y_move rfl rfl) ?_
    refine hl_no 8 27 false true rfl rfl rfl rfl rfl rfl ?_
    refine hl_no 8 27 false true rfl rfl rfl rfl rfl rfl ?_
    refine hl_no 8 27 false true rfl rfl rfl rfl rfl rfl ?_
    refine hl_nou 11 30 true rfl rfl rfl rfl rfl ?_
    refine hl_nou 11 30 true rfl rfl rfl rfl rfl ?_
    refine hl_no 8 27 false true rfl rfl rfl rfl rfl rfl ?_
    refine hl_y rfl rfl rfl (y_pick (b := true) rfl rfl rfl) ?_
    refine hl_y rfl rfl rfl (y_move rfl rfl) ?_
    refine hl_no 16 35 false true rfl rfl rfl rfl rfl rfl ?_
    refine hl_no 16 35 false true rfl rfl rfl rfl rfl rfl ?_
    refine hl_no 16 35 false true rfl rfl rfl rfl rfl rfl ?_
    refine hl_nou 19 38 true rfl rfl rfl rfl rfl ?_
    refine hl_nou 19 38 true rfl rfl rfl rfl rfl ?_
    refine hl_no 16 35 false true rfl rfl rfl rfl rfl rfl ?_
    refine hl_y rfl rfl rfl (y_pick (b := true) rfl rfl rfl) ?_
    refine hl_nil ?_
    refine hq_then ?_
    refine hc_ifT rfl ?_
    refine hc_seq ?_
    refine hc_region ?_
    refine hl_i rfl rfl rfl (e_call0 rfl F46 rfl (fun w hw => law12_alive_ct w) rfl) ?_; intro _
    refine hl_y rfl rfl rfl (y_assign rfl rfl) ?_
    refine hl_nil ?_
    refine hq_then ?_
    refine hc_ret ?_
    exact hq_then_ret (hq_ret1 (()) rfl (rv_tmp rfl) rfl (fun _ h => Mm.pick h [] (by simp)))
  · skip
    rcases Decidable.em (100 < nl.length) with k1 | k1
    · skip
      refine hc_region ?_
      refine hl_y rfl rfl rfl (y_move rfl rfl) ?_
      refine hl_y rfl rfl rfl (y_lenE (kl.length) rfl rfl S22 rfl (rdF hk) (by first | rfl | simp only [ls_len, ns_len] | (simp only [ls_len, ns_len]; omega))) ?_
      refine hl_y rfl rfl rfl (y_as (y_gtrn (q := 100) rfl rfl rfl ) (congrArg Value.bool (decide_eq_false (by omega)))) ?_
      refine hl_y rfl rfl rfl (y_move rfl rfl) ?_
      refine hl_yg 3 22 false rfl rfl rfl rfl rfl (y_move rfl rfl) ?_
      refine hl_yg 3 22 false rfl rfl rfl rfl rfl (y_lenE (nl.length) rfl rfl S22 rfl (rdF hn) (by first | rfl | simp only [ls_len, ns_len] | (simp only [ls_len, ns_len]; omega))) ?_
      refine hl_yg 3 22 false rfl rfl rfl rfl rfl (y_as (y_gtrn (q := 100) rfl rfl rfl ) (congrArg Value.bool (decide_eq_true (by omega)))) ?_
      refine hl_y rfl rfl rfl (y_pick (b := false) rfl rfl rfl) ?_
      refine hl_y rfl rfl rfl (y_move rfl rfl) ?_
      refine hl_no 8 27 false true rfl rfl rfl rfl rfl rfl ?_
      refine hl_no 8 27 false true rfl rfl rfl rfl rfl rfl ?_
      refine hl_no 8 27 false true rfl rfl rfl rfl rfl rfl ?_
      refine hl_nou 11 30 true rfl rfl rfl rfl rfl ?_
      refine hl_nou 11 30 true rfl rfl rfl rfl rfl ?_
      refine hl_no 8 27 false true rfl rfl rfl rfl rfl rfl ?_
      refine hl_y rfl rfl rfl (y_pick (b := true) rfl rfl rfl) ?_
      refine hl_y rfl rfl rfl (y_move rfl rfl) ?_
      refine hl_no 16 35 false true rfl rfl rfl rfl rfl rfl ?_
      refine hl_no 16 35 false true rfl rfl rfl rfl rfl rfl ?_
      refine hl_no 16 35 false true rfl rfl rfl rfl rfl rfl ?_
      refine hl_nou 19 38 true rfl rfl rfl rfl rfl ?_
      refine hl_nou 19 38 true rfl rfl rfl rfl rfl ?_
      refine hl_no 16 35 false true rfl rfl rfl rfl rfl rfl ?_
      refine hl_y rfl rfl rfl (y_pick (b := true) rfl rfl rfl) ?_
      refine hl_nil ?_
      refine hq_then ?_
      refine hc_ifT rfl ?_
      refine hc_seq ?_
      refine hc_region ?_
      refine hl_i rfl rfl rfl (e_call0 rfl F46 rfl (fun w hw => law12_alive_ct w) rfl) ?_; intro _
      refine hl_y rfl rfl rfl (y_assign rfl rfl) ?_
      refine hl_nil ?_
      refine hq_then ?_
      refine hc_ret ?_
      exact hq_then_ret (hq_ret1 (()) rfl (rv_tmp rfl) rfl (fun _ h => Mm.pick h [] (by simp)))
    · skip
      refine hc_region ?_
      refine hl_y rfl rfl rfl (y_move rfl rfl) ?_
      refine hl_y rfl rfl rfl (y_lenE (kl.length) rfl rfl S22 rfl (rdF hk) (by first | rfl | simp only [ls_len, ns_len] | (simp only [ls_len, ns_len]; omega))) ?_
      refine hl_y rfl rfl rfl (y_as (y_gtrn (q := 100) rfl rfl rfl ) (congrArg Value.bool (decide_eq_false (by omega)))) ?_
      refine hl_y rfl rfl rfl (y_move rfl rfl) ?_
      refine hl_yg 3 22 false rfl rfl rfl rfl rfl (y_move rfl rfl) ?_
      refine hl_yg 3 22 false rfl rfl rfl rfl rfl (y_lenE (nl.length) rfl rfl S22 rfl (rdF hn) (by first | rfl | simp only [ls_len, ns_len] | (simp only [ls_len, ns_len]; omega))) ?_
      refine hl_yg 3 22 false rfl rfl rfl rfl rfl (y_as (y_gtrn (q := 100) rfl rfl rfl ) (congrArg Value.bool (decide_eq_false (by omega)))) ?_
      refine hl_y rfl rfl rfl (y_pick (b := false) rfl rfl rfl) ?_
      refine hl_y rfl rfl rfl (y_move rfl rfl) ?_
      refine hl_yg 8 27 false rfl rfl rfl rfl rfl (y_move rfl rfl) ?_
      refine hl_yg 8 27 false rfl rfl rfl rfl rfl (y_as (y_gtri (q := 300) rfl rfl rfl ) (congrArg Value.bool (decide_eq_false (by omega)))) ?_
      refine hl_yg 8 27 false rfl rfl rfl rfl rfl (y_move rfl rfl) ?_
      refine hl_no 11 30 true false rfl rfl rfl rfl rfl rfl ?_
      refine hl_no 11 30 true false rfl rfl rfl rfl rfl rfl ?_
      refine hl_yg 8 27 false rfl rfl rfl rfl rfl (y_pick (b := false) rfl rfl rfl) ?_
      refine hl_y rfl rfl rfl (y_pick (b := false) rfl rfl rfl) ?_
      refine hl_y rfl rfl rfl (y_move rfl rfl) ?_
      refine hl_yg 16 35 false rfl rfl rfl rfl rfl (y_move rfl rfl) ?_
      refine hl_yg 16 35 false rfl rfl rfl rfl rfl (y_as (y_gtri (q := 200) rfl rfl rfl ) (congrArg Value.bool (decide_eq_false (by omega)))) ?_
      refine hl_yg 16 35 false rfl rfl rfl rfl rfl (y_move rfl rfl) ?_
      refine hl_no 19 38 true false rfl rfl rfl rfl rfl rfl ?_
      refine hl_no 19 38 true false rfl rfl rfl rfl rfl rfl ?_
      refine hl_yg 16 35 false rfl rfl rfl rfl rfl (y_pick (b := false) rfl rfl rfl) ?_
      refine hl_y rfl rfl rfl (y_pick (b := false) rfl rfl rfl) ?_
      refine hl_nil ?_
      refine hq_then ?_
      refine hc_ifF rfl ?_
      refine hc_skip ?_
      refine hq_then ?_
      refine hc_seq ?_
      refine hc_region ?_
      refine hl_y rfl rfl rfl (y_move rfl rfl) ?_
      refine hl_y rfl rfl rfl (y_move rfl rfl) ?_
      refine hl_y rfl rfl rfl (y_move rfl rfl) ?_
      refine hl_i rfl rfl rfl (e_call0 rfl F47 rfl (fun w hw => ctr_At_neg _ _ _ _ _ (by omega) (by omega) w ((rdF hk) w hw) ((rdF hn) w hw)) rfl) ?_; intro _
      refine hl_y rfl rfl rfl (y_move rfl rfl) ?_
      refine hl_y rfl rfl rfl (y_extract rfl rfl rfl) ?_
      refine hl_y rfl rfl rfl (y_extract rfl rfl rfl) ?_
      refine hl_i rfl rfl rfl (e_alloc rfl Z41) ?_; intro g11
      refine hl_i0 rfl rfl (e_stw 0 rfl T41.2 rfl rfl rfl (ns_oneb _ _)) ?_; intro _
      refine hl_y rfl rfl rfl (y_assign rfl rfl) ?_
      refine hl_nil ?_
      refine hq_then ?_
      refine hc_seq ?_
      refine hc_region ?_
      refine hl_y rfl rfl rfl (y_move rfl rfl) ?_
      refine hl_y rfl rfl rfl (y_move rfl rfl) ?_
      refine hl_y rfl rfl rfl (y_move rfl rfl) ?_
      refine hl_i rfl rfl rfl (e_call0 rfl F48 rfl (fun w hw => r12_At_neg _ _ _ _ _ (by omega) (by omega) w ((rdF hk) w hw) ((rdF hn) w hw)) rfl) ?_; intro _
      refine hl_y rfl rfl rfl (y_move rfl rfl) ?_
      refine hl_y rfl rfl rfl (y_extract rfl rfl rfl) ?_
      refine hl_y rfl rfl rfl (y_extract rfl rfl rfl) ?_
      refine hl_i rfl rfl rfl (e_alloc rfl Z41) ?_; intro g13
      refine hl_i0 rfl rfl (e_stw 0 rfl T41.2 rfl rfl rfl (ns_oneb _ _)) ?_; intro _
      refine hl_y rfl rfl rfl (y_assign rfl rfl) ?_
      refine hl_nil ?_
      refine hq_then ?_
      refine hc_seq ?_
      refine hc_region ?_
      refine hl_y rfl rfl rfl (y_move rfl rfl) ?_
      refine hl_y rfl rfl rfl (y_move rfl rfl) ?_
      refine hl_y rfl rfl rfl (y_move rfl rfl) ?_
      refine hl_i rfl rfl rfl (e_call0 rfl F49 rfl (fun w hw => ctr_Stream_neg _ _ _ _ _ (by omega) (by omega) w ((rdF hk) w hw) ((rdF hn) w hw)) rfl) ?_; intro _
      refine hl_y rfl rfl rfl (y_move rfl rfl) ?_
      refine hl_y rfl rfl rfl (y_extract rfl rfl rfl) ?_
      refine hl_y rfl rfl rfl (y_extract rfl rfl rfl) ?_
      refine hl_y rfl rfl rfl (y_assign rfl rfl) ?_
      refine hl_y rfl rfl rfl (y_assign rfl rfl) ?_
      refine hl_nil ?_
      refine hq_then ?_
      refine hc_seq ?_
      refine hc_region ?_
      refine hl_y rfl rfl rfl (y_move rfl rfl) ?_
      refine hl_y rfl rfl rfl (y_move rfl rfl) ?_
      refine hl_y rfl rfl rfl (y_move rfl rfl) ?_
      refine hl_i rfl rfl rfl (e_call0 rfl F50 rfl (fun w hw => r12_Stream_neg _ _ _ _ _ (by omega) (by omega) w ((rdF hk) w hw) ((rdF hn) w hw)) rfl) ?_; intro _
      refine hl_y rfl rfl rfl (y_move rfl rfl) ?_
      refine hl_y rfl rfl rfl (y_extract rfl rfl rfl) ?_
      refine hl_y rfl rfl rfl (y_extract rfl rfl rfl) ?_
      refine hl_y rfl rfl rfl (y_assign rfl rfl) ?_
      refine hl_y rfl rfl rfl (y_assign rfl rfl) ?_
      refine hl_nil ?_
      refine hq_then ?_
      refine hc_seq ?_
      refine hc_drawP [0, 1, 2] follows_mixed ?_
      refine hh_y 0 rfl rfl rfl rfl (by kernel_rfl) (by kernel_rfl) (by kernel_rfl) (fun _ h => Mm.pick h [0, 1, 2] (by decide)) (y_ldw 2 rfl T41 rfl rfl) ?_
      refine hh_y 2 rfl rfl rfl rfl (by kernel_rfl) (by kernel_rfl) (by kernel_rfl) (fun _ h => Mm.pick h [0, 1, 2] (by decide)) (y_ldw 2 rfl T41 rfl rfl) ?_
      refine hh_i 1 rfl rfl rfl rfl (by kernel_rfl) (e_call0 rfl F51 rfl (fun w hw => ctr_Next_ct _ w) rfl) (fun _ _ h => Mm.pick h [0, 1, 2] (by decide)) ?_; intro _
      refine hh_i 3 rfl rfl rfl rfl (by kernel_rfl) (e_call0 rfl F52 rfl (fun w hw => r12_Next_ct _ w) rfl) (fun _ _ h => Mm.pick h [0, 1, 2] (by decide)) ?_; intro _
      refine hh_y 4 rfl rfl rfl rfl (by kernel_rfl) (by kernel_rfl) (by kernel_rfl) (fun _ h => Mm.pick h [0, 1, 2] (by decide)) (y_as (y_eqlarr Q41 rfl rfl rfl) (congrArg Value.bool (eqn_true (fun _ _ => rfl)))) ?_
      refine hh_y 5 rfl rfl rfl rfl (by kernel_rfl) (by kernel_rfl) (by kernel_rfl) (fun _ h => Mm.pick h [0, 1, 2] (by decide)) (y_move rfl rfl) ?_
      refine hh_yg 6 5 77 true rfl rfl rfl rfl rfl rfl (by kernel_rfl) (by kernel_rfl) (by kernel_rfl) (fun _ h => Mm.pick h [0, 1, 2] (by decide)) (y_ldw 1 rfl T41 rfl rfl) ?_
      refine hh_yg 7 5 77 true rfl rfl rfl rfl rfl rfl (by kernel_rfl) (by kernel_rfl) (by kernel_rfl) (fun _ h => Mm.pick h [0, 1, 2] (by decide)) (y_ldw 0 rfl T41 rfl rfl) ?_
      refine hh_yg 8 5 77 true rfl rfl rfl rfl rfl rfl (by kernel_rfl) (by kernel_rfl) (by kernel_rfl) (fun _ h => Mm.pick h [0, 1, 2] (by decide)) (y_as (y_eqlarr Q41 rfl rfl rfl) (congrArg Value.bool (eqn_true (fun _ _ => rfl)))) ?_
      refine hh_y 9 rfl rfl rfl rfl (by kernel_rfl) (by kernel_rfl) (by kernel_rfl) (fun _ h => Mm.pick h [0, 1, 2] (by decide)) (y_pick (b := true) rfl rfl rfl) ?_
      refine hh_y 10 rfl rfl rfl rfl (by kernel_rfl) (by kernel_rfl) (by kernel_rfl) (fun _ h => Mm.pick h [0, 1, 2] (by decide)) (y_move rfl rfl) ?_
      refine hh_yg 11 10 82 true rfl rfl rfl rfl rfl rfl (by kernel_rfl) (by kernel_rfl) (by kernel_rfl) (fun _ h => Mm.pick h [0, 1, 2] (by decide)) (y_move rfl rfl) ?_
      refine hh_yg 12 10 82 true rfl rfl rfl rfl rfl rfl (by kernel_rfl) (by kernel_rfl) (by kernel_rfl) (fun _ h => Mm.pick h [0, 1, 2] (by decide)) (y_move rfl rfl) ?_
      refine hh_yg 13 10 82 true rfl rfl rfl rfl rfl rfl (by kernel_rfl) (by kernel_rfl) (by kernel_rfl) (fun _ h => Mm.pick h [0, 1, 2] (by decide)) (y_as (y_eqln rfl rfl rfl ) (congrArg Value.bool (decide_eq_true (atFn_eq kl nl)))) ?_
      refine hh_y 14 rfl rfl rfl rfl (by kernel_rfl) (by kernel_rfl) (by kernel_rfl) (fun _ h => Mm.pick h [0, 1, 2] (by decide)) (y_pick (b := true) rfl rfl rfl) ?_
      refine hh_y 15 rfl rfl rfl rfl (by kernel_rfl) (by kernel_rfl) (by kernel_rfl) (fun _ h => Mm.pick h [0, 1, 2] (by decide)) (y_move rfl rfl) ?_
      refine hh_yg 16 15 87 true rfl rfl rfl rfl rfl rfl (by kernel_rfl) (by kernel_rfl) (by kernel_rfl) (fun _ h => Mm.pick h [0, 1, 2] (by decide)) (y_move rfl rfl) ?_
      refine hh_yg 17 15 87 true rfl rfl rfl rfl rfl rfl (by kernel_rfl) (by kernel_rfl) (by kernel_rfl) (fun _ h => Mm.pick h [0, 1, 2] (by decide)) (y_move rfl rfl) ?_
      refine hh_ig 18 15 87 true rfl rfl rfl rfl rfl rfl (by kernel_rfl) (e_call0 rfl F32 rfl (fun w hw => r01_Same_t _ _ _ _ w (rd_nilb w hw) (rd_nilb w hw) (Nat.zero_le _) rfl) rfl) (fun _ _ h => Mm.pick h [0, 1, 2] (by decide)) ?_; intro _
      refine hh_y 19 rfl rfl rfl rfl (by kernel_rfl) (by kernel_rfl) (by kernel_rfl) (fun _ h => Mm.pick h [0, 1, 2] (by decide)) (y_pick (b := true) rfl rfl rfl) ?_
      refine hh_y 20 rfl rfl rfl rfl (by kernel_rfl) (by kernel_rfl) (by kernel_rfl) (fun _ h => Mm.pick h [0, 1, 2] (by decide)) (y_move rfl rfl) ?_
      refine hh_yg 21 20 92 true rfl rfl rfl rfl rfl rfl (by kernel_rfl) (by kernel_rfl) (by kernel_rfl) (fun _ h => Mm.pick h [0, 1, 2] (by decide)) (y_move rfl rfl) ?_
      refine hh_yg 22 20 92 true rfl rfl rfl rfl rfl rfl (by kernel_rfl) (by kernel_rfl) (by kernel_rfl) (fun _ h => Mm.pick h [0, 1, 2] (by decide)) (y_move rfl rfl) ?_
      refine hh_yg 23 20 92 true rfl rfl rfl rfl rfl rfl (by kernel_rfl) (by kernel_rfl) (by kernel_rfl) (fun _ h => Mm.pick h [0, 1, 2] (by decide)) (y_as (y_eqln rfl rfl rfl ) (congrArg Value.bool (decide_eq_true (atFn_eq kl nl)))) ?_
      refine hh_y 24 rfl rfl rfl rfl (by kernel_rfl) (by kernel_rfl) (by kernel_rfl) (fun _ h => Mm.pick h [0, 1, 2] (by decide)) (y_pick (b := true) rfl rfl rfl) ?_
      refine hh_y 25 rfl rfl rfl rfl (by kernel_rfl) (by kernel_rfl) (by kernel_rfl) (fun _ h => Mm.pick h [0, 1, 2] (by decide)) (y_move rfl rfl) ?_
      refine hh_ig 26 25 97 true rfl rfl rfl rfl rfl rfl (by kernel_rfl) (e_call0 rfl F46 rfl (fun w hw => law12_alive_ct w) rfl) (fun _ _ h => Mm.pick h [0, 1, 2] (by decide)) ?_; intro _
      refine hh_y 27 rfl rfl rfl rfl (by kernel_rfl) (by kernel_rfl) (by kernel_rfl) (fun _ h => Mm.pick h [0, 1, 2] (by decide)) (y_pick (b := true) rfl rfl rfl) ?_
      refine hh_y 28 rfl rfl rfl rfl (by kernel_rfl) (by kernel_rfl) (by kernel_rfl) (fun _ h => Mm.pick h [0, 1, 2] (by decide)) (y_assign rfl rfl) ?_
      refine hh_done (by kernel_rfl) ?_
      refine hq_then ?_
      refine hc_ret ?_
      exact hq_ret1 (()) rfl (rv_tmp rfl) rfl (fun _ h => Mm.pick h [] (by simp))

theorem ctrTexts_ct (kl nl : List UInt8) (kv nv : Value) (tl : List UInt8) (tv : Value)  (w : World) (hk : Rd w kv (ls vb kl)) (hn : Rd w nv (ls vb nl)) (ht : Rd w tv (ls vb tl)) (hm : tl.length ≤ 9223372036854775807) : Ct0 Try.prog 12 #[kv, nv, tv] w (.bool true) := by
  refine ct0_of Try.func12 rfl Try.ntmps12 rfl ?_
  refine hc_seq ?_
  refine hc_region ?_
  refine hl_y rfl rfl rfl (y_assign rfl rfl) ?_
  refine hl_nil ?_
  refine hq_then ?_
  refine hc_seq ?_
  refine hc_seq ?_
  rcases Decidable.em (100 < kl.length) with k0 | k0
  · skip
    refine hc_region ?_
    refine hl_y rfl rfl rfl (y_move rfl rfl) ?_
    refine hl_y rfl rfl rfl (y_lenE (kl.length) rfl rfl S22 rfl (rdF hk) (by first | rfl | simp only [ls_len, ns_len] | (simp only [ls_len, ns_len]; omega))) ?_
    refine hl_y rfl rfl rfl (y_as (y_gtrn (q := 100) rfl rfl rfl ) (congrArg Value.bool (decide_eq_true (by omega)))) ?_
    refine hl_y rfl rfl rfl (y_move rfl rfl) ?_
    refine hl_no 3 14 false true rfl rfl rfl rfl rfl rfl ?_
    refine hl_no 3 14 false true rfl rfl rfl rfl rfl rfl ?_
    refine hl_no 3 14 false true rfl rfl rfl rfl rfl rfl ?_
    refine hl_y rfl rfl rfl (y_pick (b := true) rfl rfl rfl) ?_
    refine hl_y rfl rfl rfl (y_move rfl rfl) ?_
    refine hl_no 8 19 false true rfl rfl rfl rfl rfl rfl ?_
    refine hl_no 8 19 false true rfl rfl rfl rfl rfl rfl ?_
    refine hl_no 8 19 false true rfl rfl rfl rfl rfl rfl ?_
    refine hl_y rfl rfl rfl (y_pick (b := true) rfl rfl rfl) ?_
    refine hl_nil ?_
    refine hq_then ?_
    refine hc_ifT rfl ?_
    refine hc_seq ?_
    refine hc_region ?_
    refine hl_i rfl rfl rfl (e_call0 rfl F46 rfl (fun w hw => law12_alive_ct w) rfl) ?_; intro _
    refine hl_y rfl rfl rfl (y_assign rfl rfl) ?_
    refine hl_nil ?_
    refine hq_then ?_
    refine hc_ret ?_
    exact hq_then_ret (hq_ret1 (()) rfl (rv_tmp rfl) rfl (fun _ h => Mm.pick h [] (by simp)))
  · skip
    rcases Decidable.em (100 < nl.length) with k1 | k1
    · skip
      refine hc_region ?_
      refine hl_y rfl rfl rfl (y_move rfl rfl) ?_
      refine hl_y rfl rfl rfl (y_lenE (kl.length) rfl rfl S22 rfl (rdF hk) (by first | rfl | simp only [ls_len, ns_len] | (simp only [ls_len, ns_len]; omega))) ?_
      refine hl_y rfl rfl rfl (y_as (y_gtrn (q := 100) rfl rfl rfl ) (congrArg Value.bool (decide_eq_false (by omega)))) ?_
      refine hl_y rfl rfl rfl (y_move rfl rfl) ?_
      refine hl_yg 3 14 false rfl rfl rfl rfl rfl (y_move rfl rfl) ?_
      refine hl_yg 3 14 false rfl rfl rfl rfl rfl (y_lenE (nl.length) rfl rfl S22 rfl (rdF hn) (by first | rfl | simp only [ls_len, ns_len] | (simp only [ls_len, ns_len]; omega))) ?_
      refine hl_yg 3 14 false rfl rfl rfl rfl rfl (y_as (y_gtrn (q := 100) rfl rfl rfl ) (congrArg Value.bool (decide_eq_true (by omega)))) ?_
      refine hl_y rfl rfl rfl (y_pick (b := false) rfl rfl rfl) ?_
      refine hl_y rfl rfl rfl (y_move rfl rfl) ?_
      refine hl_no 8 19 false true rfl rfl rfl rfl rfl rfl ?_
      refine hl_no 8 19 false true rfl rfl rfl rfl rfl rfl ?_
      refine hl_no 8 19 false true rfl rfl rfl rfl rfl rfl ?_
      refine hl_y rfl rfl rfl (y_pick (b := true) rfl rfl rfl) ?_
      refine hl_nil ?_
      refine hq_then ?_
      refine hc_ifT rfl ?_
      refine hc_seq ?_
      refine hc_region ?_
      refine hl_i rfl rfl rfl (e_call0 rfl F46 rfl (fun w hw => law12_alive_ct w) rfl) ?_; intro _
      refine hl_y rfl rfl rfl (y_assign rfl rfl) ?_
      refine hl_nil ?_
      refine hq_then ?_
      refine hc_ret ?_
      exact hq_then_ret (hq_ret1 (()) rfl (rv_tmp rfl) rfl (fun _ h => Mm.pick h [] (by simp)))
    · skip
      rcases Decidable.em (200 < tl.length) with k2 | k2
      · skip
        refine hc_region ?_
        refine hl_y rfl rfl rfl (y_move rfl rfl) ?_
        refine hl_y rfl rfl rfl (y_lenE (kl.length) rfl rfl S22 rfl (rdF hk) (by first | rfl | simp only [ls_len, ns_len] | (simp only [ls_len, ns_len]; omega))) ?_
        refine hl_y rfl rfl rfl (y_as (y_gtrn (q := 100) rfl rfl rfl ) (congrArg Value.bool (decide_eq_false (by omega)))) ?_
        refine hl_y rfl rfl rfl (y_move rfl rfl) ?_
        refine hl_yg 3 14 false rfl rfl rfl rfl rfl (y_move rfl rfl) ?_
        refine hl_yg 3 14 false rfl rfl rfl rfl rfl (y_lenE (nl.length) rfl rfl S22 rfl (rdF hn) (by first | rfl | simp only [ls_len, ns_len] | (simp only [ls_len, ns_len]; omega))) ?_
        refine hl_yg 3 14 false rfl rfl rfl rfl rfl (y_as (y_gtrn (q := 100) rfl rfl rfl ) (congrArg Value.bool (decide_eq_false (by omega)))) ?_
        refine hl_y rfl rfl rfl (y_pick (b := false) rfl rfl rfl) ?_
        refine hl_y rfl rfl rfl (y_move rfl rfl) ?_
        refine hl_yg 8 19 false rfl rfl rfl rfl rfl (y_move rfl rfl) ?_
        refine hl_yg 8 19 false rfl rfl rfl rfl rfl (y_lenE (tl.length) rfl rfl S22 rfl (rdF ht) (by first | rfl | simp only [ls_len, ns_len] | (simp only [ls_len, ns_len]; omega))) ?_
        refine hl_yg 8 19 false rfl rfl rfl rfl rfl (y_as (y_gtrn (q := 200) rfl rfl rfl ) (congrArg Value.bool (decide_eq_true (by omega)))) ?_
        refine hl_y rfl rfl rfl (y_pick (b := false) rfl rfl rfl) ?_
        refine hl_nil ?_
        refine hq_then ?_
        refine hc_ifT rfl ?_
        refine hc_seq ?_
        refine hc_region ?_
        refine hl_i rfl rfl rfl (e_call0 rfl F46 rfl (fun w hw => law12_alive_ct w) rfl) ?_; intro _
        refine hl_y rfl rfl rfl (y_assign rfl rfl) ?_
        refine hl_nil ?_
        refine hq_then ?_
        refine hc_ret ?_
        exact hq_then_ret (hq_ret1 (()) rfl (rv_tmp rfl) rfl (fun _ h => Mm.pick h [] (by simp)))
      · skip
        refine hc_region ?_
        refine hl_y rfl rfl rfl (y_move rfl rfl) ?_
        refine hl_y rfl rfl rfl (y_lenE (kl.length) rfl rfl S22 rfl (rdF hk) (by first | rfl | simp only [ls_len, ns_len] | (simp only [ls_len, ns_len]; omega))) ?_
        refine hl_y rfl rfl rfl (y_as (y_gtrn (q := 100) rfl rfl rfl ) (congrArg Value.bool (decide_eq_false (by omega)))) ?_
        refine hl_y rfl rfl rfl (y_move rfl rfl) ?_
        refine hl_yg 3 14 false rfl rfl rfl rfl rfl (y_move rfl rfl) ?_
        refine hl_yg 3 14 false rfl rfl rfl rfl rfl (y_lenE (nl.length) rfl rfl S22 rfl (rdF hn) (by first | rfl | simp only [ls_len, ns_len] | (simp only [ls_len, ns_len]; omega))) ?_
        refine hl_yg 3 14 false rfl rfl rfl rfl rfl (y_as (y_gtrn (q := 100) rfl rfl rfl ) (congrArg Value.bool (decide_eq_false (by omega)))) ?_
        refine hl_y rfl rfl rfl (y_pick (b := false) rfl rfl rfl) ?_
        refine hl_y rfl rfl rfl (y_move rfl rfl) ?_
        refine hl_yg 8 19 false rfl rfl rfl rfl rfl (y_move rfl rfl) ?_
        refine hl_yg 8 19 false rfl rfl rfl rfl rfl (y_lenE (tl.length) rfl rfl S22 rfl (rdF ht) (by first | rfl | simp only [ls_len, ns_len] | (simp only [ls_len, ns_len]; omega))) ?_
        refine hl_yg 8 19 false rfl rfl rfl rfl rfl (y_as (y_gtrn (q := 200) rfl rfl rfl ) (congrArg Value.bool (decide_eq_false (by omega)))) ?_
        refine hl_y rfl rfl rfl (y_pick (b := false) rfl rfl rfl) ?_
        refine hl_nil ?_
        refine hq_then ?_
        refine hc_ifF rfl ?_
        refine hc_skip ?_
        refine hq_then ?_
        refine hc_seq ?_
        refine hc_region ?_
        refine hl_y rfl rfl rfl (y_move rfl rfl) ?_
        refine hl_y rfl rfl rfl (y_move rfl rfl) ?_
        refine hl_y rfl rfl rfl (y_move rfl rfl) ?_
        refine hl_i rfl rfl rfl (e_call rfl F53 rfl (fun w hw => ctr_Over_ct _ _ _ _ _ _ w ((rdF hk) w hw) ((rdF hn) w hw) ((rdF ht) w hw) (by omega)) rfl) ?_; intro y29
        refine hl_y rfl rfl rfl (y_move rfl rfl) ?_
        refine hl_y rfl rfl rfl (y_extract rfl rfl rfl) ?_
        refine hl_y rfl rfl rfl (y_extract rfl rfl rfl) ?_
        refine hl_y rfl rfl rfl (y_assign rfl rfl) ?_
        refine hl_y rfl rfl rfl (y_assign rfl rfl) ?_
        refine hl_nil ?_
        refine hq_then ?_
        refine hc_seq ?_
        refine hc_region ?_
        refine hl_y rfl rfl rfl (y_move rfl rfl) ?_
        refine hl_y rfl rfl rfl (y_move rfl rfl) ?_
        refine hl_y rfl rfl rfl (y_move rfl rfl) ?_
        refine hl_i rfl rfl rfl (e_call rfl F54 rfl (fun w hw => r12_Over_ct _ _ _ _ _ _ w ((rdF hk) w hw) ((rdF hn) w hw) ((rdF ht) w hw) (by omega)) rfl) ?_; intro y36
        refine hl_y rfl rfl rfl (y_move rfl rfl) ?_
        refine hl_y rfl rfl rfl (y_extract rfl rfl rfl) ?_
        refine hl_y rfl rfl rfl (y_extract rfl rfl rfl) ?_
        refine hl_y rfl rfl rfl (y_assign rfl rfl) ?_
        refine hl_y rfl rfl rfl (y_assign rfl rfl) ?_
        refine hl_nil ?_
        refine hq_then ?_
        refine hc_seq ?_
        refine hc_region ?_
        refine hl_y rfl rfl rfl (y_move rfl rfl) ?_
        refine hl_y rfl rfl rfl (y_move rfl rfl) ?_
        refine hl_i rfl rfl rfl (e_call0 rfl F32 rfl (fun w hw => r01_Same_t _ _ _ _ w ((rdR 1 rfl) w hw) ((rdR 0 rfl) w hw) (by have := over_le kl nl tl; omega) (over_eq kl nl tl)) rfl) ?_; intro _
        refine hl_y rfl rfl rfl (y_move rfl rfl) ?_
        refine hl_yg 3 42 true rfl rfl rfl rfl rfl (y_move rfl rfl) ?_
        refine hl_yg 3 42 true rfl rfl rfl rfl rfl (y_move rfl rfl) ?_
        refine hl_yg 3 42 true rfl rfl rfl rfl rfl (y_as (y_eqln rfl rfl rfl ) (congrArg Value.bool (decide_eq_true (strF_eq kl nl tl.length)))) ?_
        refine hl_y rfl rfl rfl (y_pick (b := true) rfl rfl rfl) ?_
        refine hl_y rfl rfl rfl (y_move rfl rfl) ?_
        refine hl_ig 8 47 true rfl rfl rfl rfl rfl (e_call0 rfl F46 rfl (fun w hw => law12_alive_ct w) rfl) ?_; intro _
        refine hl_y rfl rfl rfl (y_pick (b := true) rfl rfl rfl) ?_
        refine hl_y rfl rfl rfl (y_assign rfl rfl) ?_
        refine hl_nil ?_
        refine hq_then ?_
        refine hc_ret ?_
        exact hq_ret1 (()) rfl (rv_tmp rfl) rfl (fun _ h => Mm.pick h [] (by simp))

theorem ctrBack_ct (kl nl : List UInt8) (kv nv : Value) (tl : List UInt8) (tv : Value) (i : Int) (h0 : -9223372036854775808 ≤ i) (h1 : i ≤ 9223372036854775807) (w : World) (hk : Rd w kv (ls vb kl)) (hn : Rd w nv (ls vb nl)) (ht : Rd w tv (ls vb tl)) (hm : tl.length ≤ 9223372036854775807) : Ct0 Try.prog 13 #[kv, nv, tv, .int .i64 i] w (.bool true) := by
  refine ct0_of Try.func13 rfl Try.ntmps13 rfl ?_
  refine hc_seq ?_
  refine hc_region ?_
  refine hl_y rfl rfl rfl (y_assign rfl rfl) ?_
  refine hl_nil ?_
  refine hq_then ?_
  refine hc_seq ?_
  refine hc_seq ?_
  rcases Decidable.em (kl.length = 32) with k0 | k0
  · skip
    rcases Decidable.em (nl.length = 16) with k1 | k1
    · skip
      rcases Decidable.em (200 < tl.length) with k2 | k2
      · skip
        refine hc_region ?_
        refine hl_y rfl rfl rfl (y_move rfl rfl) ?_
        refine hl_y rfl rfl rfl (y_lenE (kl.length) rfl rfl S22 rfl (rdF hk) (by first | rfl | simp only [ls_len, ns_len] | (simp only [ls_len, ns_len]; omega))) ?_
        refine hl_y rfl rfl rfl (y_as (y_neqn (q := 32) rfl rfl rfl ) (congrArg Value.bool (decide_eq_false (by omega)))) ?_
        refine hl_y rfl rfl rfl (y_move rfl rfl) ?_
        refine hl_yg 3 19 false rfl rfl rfl rfl rfl (y_move rfl rfl) ?_
        refine hl_yg 3 19 false rfl rfl rfl rfl rfl (y_lenE (nl.length) rfl rfl S22 rfl (rdF hn) (by first | rfl | simp only [ls_len, ns_len] | (simp only [ls_len, ns_len]; omega))) ?_
        refine hl_yg 3 19 false rfl rfl rfl rfl rfl (y_as (y_neqn (q := 16) rfl rfl rfl ) (congrArg Value.bool (decide_eq_false (by omega)))) ?_
        refine hl_y rfl rfl rfl (y_pick (b := false) rfl rfl rfl) ?_
        refine hl_y rfl rfl rfl (y_move rfl rfl) ?_
        refine hl_yg 8 24 false rfl rfl rfl rfl rfl (y_move rfl rfl) ?_
        refine hl_yg 8 24 false rfl rfl rfl rfl rfl (y_lenE (tl.length) rfl rfl S22 rfl (rdF ht) (by first | rfl | simp only [ls_len, ns_len] | (simp only [ls_len, ns_len]; omega))) ?_
        refine hl_yg 8 24 false rfl rfl rfl rfl rfl (y_as (y_gtrn (q := 200) rfl rfl rfl ) (congrArg Value.bool (decide_eq_true (by omega)))) ?_
        refine hl_y rfl rfl rfl (y_pick (b := false) rfl rfl rfl) ?_
        refine hl_nil ?_
        refine hq_then ?_
        refine hc_ifT rfl ?_
        refine hc_seq ?_
        refine hc_region ?_
        refine hl_i rfl rfl rfl (e_call0 rfl F46 rfl (fun w hw => law12_alive_ct w) rfl) ?_; intro _
        refine hl_y rfl rfl rfl (y_assign rfl rfl) ?_
        refine hl_nil ?_
        refine hq_then ?_
        refine hc_ret ?_
        exact hq_then_ret (hq_ret1 (()) rfl (rv_tmp rfl) rfl (fun _ h => Mm.pick h [] (by simp)))
      · skip
        refine hc_region ?_
        refine hl_y rfl rfl rfl (y_move rfl rfl) ?_
        refine hl_y rfl rfl rfl (y_lenE (kl.length) rfl rfl S22 rfl (rdF hk) (by first | rfl | simp only [ls_len, ns_len] | (simp only [ls_len, ns_len]; omega))) ?_
        refine hl_y rfl rfl rfl (y_as (y_neqn (q := 32) rfl rfl rfl ) (congrArg Value.bool (decide_eq_false (by omega)))) ?_
        refine hl_y rfl rfl rfl (y_move rfl rfl) ?_
        refine hl_yg 3 19 false rfl rfl rfl rfl rfl (y_move rfl rfl) ?_
        refine hl_yg 3 19 false rfl rfl rfl rfl rfl (y_lenE (nl.length) rfl rfl S22 rfl (rdF hn) (by first | rfl | simp only [ls_len, ns_len] | (simp only [ls_len, ns_len]; omega))) ?_
        refine hl_yg 3 19 false rfl rfl rfl rfl rfl (y_as (y_neqn (q := 16) rfl rfl rfl ) (congrArg Value.bool (decide_eq_false (by omega)))) ?_
        refine hl_y rfl rfl rfl (y_pick (b := false) rfl rfl rfl) ?_
        refine hl_y rfl rfl rfl (y_move rfl rfl) ?_
        refine hl_yg 8 24 false rfl rfl rfl rfl rfl (y_move rfl rfl) ?_
        refine hl_yg 8 24 false rfl rfl rfl rfl rfl (y_lenE (tl.length) rfl rfl S22 rfl (rdF ht) (by first | rfl | simp only [ls_len, ns_len] | (simp only [ls_len, ns_len]; omega))) ?_
        refine hl_yg 8 24 false rfl rfl rfl rfl rfl (y_as (y_gtrn (q := 200) rfl rfl rfl ) (congrArg Value.bool (decide_eq_false (by omega)))) ?_
        refine hl_y rfl rfl rfl (y_pick (b := false) rfl rfl rfl) ?_
        refine hl_nil ?_
        refine hq_then ?_
        refine hc_ifF rfl ?_
        refine hc_skip ?_
        refine hq_then ?_
        refine hc_seq ?_
        refine hc_region ?_
        refine hl_y rfl rfl rfl (y_move rfl rfl) ?_
        refine hl_y rfl rfl rfl (y_move rfl rfl) ?_
        refine hl_y rfl rfl rfl (y_move rfl rfl) ?_
        refine hl_i rfl rfl rfl (e_call rfl F53 rfl (fun w hw => ctr_Over_ct _ _ _ _ _ _ w ((rdF hk) w hw) ((rdF hn) w hw) ((rdF ht) w hw) (by omega)) rfl) ?_; intro y34
        refine hl_y rfl rfl rfl (y_move rfl rfl) ?_
        refine hl_y rfl rfl rfl (y_extract rfl rfl rfl) ?_
        refine hl_y rfl rfl rfl (y_extract rfl rfl rfl) ?_
        refine hl_y rfl rfl rfl (y_assign rfl rfl) ?_
        refine hl_y rfl rfl rfl (y_assign rfl rfl) ?_
        refine hl_nil ?_
        refine hq_then ?_
        refine hc_seq ?_
        refine hc_region ?_
        refine hl_y rfl rfl rfl (y_move rfl rfl) ?_
        refine hl_y rfl rfl rfl (y_move rfl rfl) ?_
        refine hl_y rfl rfl rfl (y_move rfl rfl) ?_
        refine hl_i rfl rfl rfl (e_call rfl F53 rfl (fun w hw => ctr_Over_ct kl nl _ _ (over kl nl tl) _ w ((rdF hk) w hw) ((rdF hn) w hw) ((rdR 0 rfl) w hw) (by have := over_le kl nl tl; omega)) rfl) ?_; intro y41
        refine hl_y rfl rfl rfl (y_move rfl rfl) ?_
        refine hl_y rfl rfl rfl (y_extract rfl rfl rfl) ?_
        refine hl_y rfl rfl rfl (y_extract rfl rfl rfl) ?_
        refine hl_y rfl rfl rfl (y_assign rfl rfl) ?_
        refine hl_y rfl rfl rfl (y_assign rfl rfl) ?_
        refine hl_nil ?_
        refine hq_then ?_
        refine hc_seq ?_
        refine hc_region ?_
        refine hl_y rfl rfl rfl (y_move rfl rfl) ?_
        refine hl_y rfl rfl rfl (y_move rfl rfl) ?_
        refine hl_y rfl rfl rfl (y_lenE (tl.length) rfl rfl S22 rfl (rdF ht) (by first | rfl | simp only [ls_len, ns_len] | (simp only [ls_len, ns_len]; omega))) ?_
        refine hl_y rfl rfl rfl (y_addn (q := 1) rfl rfl rfl (by omega)) ?_
        refine hl_i rfl rfl rfl (e_call0 rfl F55 rfl (fun w hw => r01_Mod_ct i (tl.length + 1) h0 h1 (by omega) (by omega) w) rfl) ?_; intro _
        refine hl_y rfl rfl rfl (y_assign rfl rfl) ?_
        refine hl_nil ?_
        refine hq_then ?_
        refine hc_seq ?_
        refine hc_region ?_
        refine hl_y rfl rfl rfl (y_move rfl rfl) ?_
        refine hl_y rfl rfl rfl (y_move rfl rfl) ?_
        refine hl_y rfl rfl rfl (y_move rfl rfl) ?_
        refine hl_y rfl rfl rfl (y_move rfl rfl) ?_
        refine hl_y rfl rfl rfl (y_slc0 rfl S22 rfl (rdF ht) rfl (by rw [ls_len]; have := modI_lt i (n := tl.length + 1) (by omega); omega)) ?_
        refine hl_i rfl rfl rfl (e_call rfl F53 rfl (fun w hw => ctr_Over_ct kl nl _ _ (tl.take (modI i (tl.length + 1))) _ w ((rdF hk) w hw) ((rdF hn) w hw) ((rdS2 (rdF ht) (by have := modI_lt i (n := tl.length + 1) (by omega); omega)) w hw) (by rw [List.length_take]; omega)) rfl) ?_; intro y55
        refine hl_y rfl rfl rfl (y_move rfl rfl) ?_
        refine hl_y rfl rfl rfl (y_extract rfl rfl rfl) ?_
        refine hl_y rfl rfl rfl (y_extract rfl rfl rfl) ?_
        refine hl_y rfl rfl rfl (y_assign rfl rfl) ?_
        refine hl_y rfl rfl rfl (y_assign rfl rfl) ?_
        refine hl_nil ?_
        refine hq_then ?_
        refine hc_seq ?_
        refine hc_region ?_
        refine hl_y rfl rfl rfl (y_move rfl rfl) ?_
        refine hl_y rfl rfl rfl (y_as (y_eqln (q := 0) rfl rfl rfl ) (congrArg Value.bool (decide_eq_true (strF_ok (by omega) (by omega) (by omega))))) ?_
        refine hl_y rfl rfl rfl (y_move rfl rfl) ?_
        refine hl_yg 2 60 true rfl rfl rfl rfl rfl (y_move rfl rfl) ?_
        refine hl_yg 2 60 true rfl rfl rfl rfl rfl (y_as (y_eqln (q := 0) rfl rfl rfl ) (congrArg Value.bool (decide_eq_true (strF_ok (by omega) (by omega) (by have := over_le kl nl tl; omega))))) ?_
        refine hl_y rfl rfl rfl (y_pick (b := true) rfl rfl rfl) ?_
        refine hl_y rfl rfl rfl (y_move rfl rfl) ?_
        refine hl_yg 6 64 true rfl rfl rfl rfl rfl (y_move rfl rfl) ?_
        refine hl_yg 6 64 true rfl rfl rfl rfl rfl (y_as (y_eqln (q := 0) rfl rfl rfl ) (congrArg Value.bool (decide_eq_true (strF_ok (by omega) (by omega) (by rw [List.length_take]; omega))))) ?_
        refine hl_y rfl rfl rfl (y_pick (b := true) rfl rfl rfl) ?_
        refine hl_y rfl rfl rfl (y_move rfl rfl) ?_
        refine hl_yg 10 68 true rfl rfl rfl rfl rfl (y_move rfl rfl) ?_
        refine hl_yg 10 68 true rfl rfl rfl rfl rfl (y_move rfl rfl) ?_
        refine hl_ig 10 68 true rfl rfl rfl rfl rfl (e_call0 rfl F32 rfl (fun w hw => r01_Same_t _ _ _ _ w ((rdR 1 rfl) w hw) ((rdF ht) w hw) (by have := over_le kl nl (over kl nl tl); have := over_le kl nl tl; omega) (over_back (by omega) (by omega) (by omega))) rfl) ?_; intro _
        refine hl_y rfl rfl rfl (y_pick (b := true) rfl rfl rfl) ?_
        refine hl_y rfl rfl rfl (y_move rfl rfl) ?_
        refine hl_yg 15 73 true rfl rfl rfl rfl rfl (y_move rfl rfl) ?_
        refine hl_yg 15 73 true rfl rfl rfl rfl rfl (y_lenE ((over kl nl tl).length) rfl rfl S22 rfl (rdR 2 rfl) (by first | rfl | simp only [ls_len, ns_len] | (simp only [ls_len, ns_len]; omega))) ?_
        refine hl_yg 15 73 true rfl rfl rfl rfl rfl (y_move rfl rfl) ?_
        refine hl_yg 15 73 true rfl rfl rfl rfl rfl (y_lenE (tl.length) rfl rfl S22 rfl (rdF ht) (by first | rfl | simp only [ls_len, ns_len] | (simp only [ls_len, ns_len]; omega))) ?_
        refine hl_yg 15 73 true rfl rfl rfl rfl rfl (y_as (y_eqln rfl rfl rfl ) (congrArg Value.bool (decide_eq_true (over_len (by omega) (by omega) (by omega))))) ?_
        refine hl_y rfl rfl rfl (y_pick (b := true) rfl rfl rfl) ?_
        refine hl_y rfl rfl rfl (y_move rfl rfl) ?_
        refine hl_yg 22 80 true rfl rfl rfl rfl rfl (y_move rfl rfl) ?_
        refine hl_yg 22 80 true rfl rfl rfl rfl rfl (y_move rfl rfl) ?_
        refine hl_yg 22 80 true rfl rfl rfl rfl rfl (y_move rfl rfl) ?_
        refine hl_yg 22 80 true rfl rfl rfl rfl rfl (y_slc0 rfl S22 rfl (rdR 2 rfl) rfl (by rw [ls_len, over_len (by omega) (by omega) (by omega)]; have := modI_lt i (n := tl.length + 1) (by omega); omega)) ?_
        refine hl_ig 22 80 true rfl rfl rfl rfl rfl (e_call0 rfl F32 rfl (fun w hw => r01_Same_t _ _ _ _ w ((rdR 0 rfl) w hw) ((rdS2 (rdR 2 rfl) (by rw [over_len (by omega) (by omega) (by omega)]; have := modI_lt i (n := tl.length + 1) (by omega); omega)) w hw) (by have := over_le kl nl (tl.take (modI i (tl.length + 1))); rw [List.length_take] at this; omega) (over_take (by omega) (by omega) (by omega) (by have := modI_lt i (n := tl.length + 1) (by omega); omega))) rfl) ?_; intro _
        refine hl_y rfl rfl rfl (y_pick (b := true) rfl rfl rfl) ?_
        refine hl_y rfl rfl rfl (y_move rfl rfl) ?_
        refine hl_ig 29 87 true rfl rfl rfl rfl rfl (e_call0 rfl F46 rfl (fun w hw => law12_alive_ct w) rfl) ?_; intro _
        refine hl_y rfl rfl rfl (y_pick (b := true) rfl rfl rfl) ?_
        refine hl_y rfl rfl rfl (y_assign rfl rfl) ?_
        refine hl_nil ?_
        refine hq_then ?_
        refine hc_ret ?_
        exact hq_ret1 (()) rfl (rv_tmp rfl) rfl (fun _ h => Mm.pick h [] (by simp))
    · skip
      refine hc_region ?_
      refine hl_y rfl rfl rfl (y_move rfl rfl) ?_
      refine hl_y rfl rfl rfl (y_lenE (kl.length) rfl rfl S22 rfl (rdF hk) (by first | rfl | simp only [ls_len, ns_len] | (simp only [ls_len, ns_len]; omega))) ?_
      refine hl_y rfl rfl rfl (y_as (y_neqn (q := 32) rfl rfl rfl ) (congrArg Value.bool (decide_eq_false (by omega)))) ?_
      refine hl_y rfl rfl rfl (y_move rfl rfl) ?_
      refine hl_yg 3 19 false rfl rfl rfl rfl rfl (y_move rfl rfl) ?_
      refine hl_yg 3 19 false rfl rfl rfl rfl rfl (y_lenE (nl.length) rfl rfl S22 rfl (rdF hn) (by first | rfl | simp only [ls_len, ns_len] | (simp only [ls_len, ns_len]; omega))) ?_
      refine hl_yg 3 19 false rfl rfl rfl rfl rfl (y_as (y_neqn (q := 16) rfl rfl rfl ) (congrArg Value.bool (decide_eq_true (by omega)))) ?_
      refine hl_y rfl rfl rfl (y_pick (b := false) rfl rfl rfl) ?_
      refine hl_y rfl rfl rfl (y_move rfl rfl) ?_
      refine hl_no 8 24 false true rfl rfl rfl rfl rfl rfl ?_
      refine hl_no 8 24 false true rfl rfl rfl rfl rfl rfl ?_
      refine hl_no 8 24 false true rfl rfl rfl rfl rfl rfl ?_
      refine hl_y rfl rfl rfl (y_pick (b := true) rfl rfl rfl) ?_
      refine hl_nil ?_
      refine hq_then ?_
      refine hc_ifT rfl ?_
      refine hc_seq ?_
      refine hc_region ?_
      refine hl_i rfl rfl rfl (e_call0 rfl F46 rfl (fun w hw => law12_alive_ct w) rfl) ?_; intro _
      refine hl_y rfl rfl rfl (y_assign rfl rfl) ?_
      refine hl_nil ?_
      refine hq_then ?_
      refine hc_ret ?_
      exact hq_then_ret (hq_ret1 (()) rfl (rv_tmp rfl) rfl (fun _ h => Mm.pick h [] (by simp)))
  · skip
    refine hc_region ?_
    refine hl_y rfl rfl rfl (y_move rfl rfl) ?_
    refine hl_y rfl rfl rfl (y_lenE (kl.length) rfl rfl S22 rfl (rdF hk) (by first | rfl | simp only [ls_len, ns_len] | (simp only [ls_len, ns_len]; omega))) ?_
    refine hl_y rfl rfl rfl (y_as (y_neqn (q := 32) rfl rfl rfl ) (congrArg Value.bool (decide_eq_true (by omega)))) ?_
    refine hl_y rfl rfl rfl (y_move rfl rfl) ?_
    refine hl_no 3 19 false true rfl rfl rfl rfl rfl rfl ?_
    refine hl_no 3 19 false true rfl rfl rfl rfl rfl rfl ?_
    refine hl_no 3 19 false true rfl rfl rfl rfl rfl rfl ?_
    refine hl_y rfl rfl rfl (y_pick (b := true) rfl rfl rfl) ?_
    refine hl_y rfl rfl rfl (y_move rfl rfl) ?_
    refine hl_no 8 24 false true rfl rfl rfl rfl rfl rfl ?_
    refine hl_no 8 24 false true rfl rfl rfl rfl rfl rfl ?_
    refine hl_no 8 24 false true rfl rfl rfl rfl rfl rfl ?_
    refine hl_y rfl rfl rfl (y_pick (b := true) rfl rfl rfl) ?_
    refine hl_nil ?_
    refine hq_then ?_
    refine hc_ifT rfl ?_
    refine hc_seq ?_
    refine hc_region ?_
    refine hl_i rfl rfl rfl (e_call0 rfl F46 rfl (fun w hw => law12_alive_ct w) rfl) ?_; intro _
    refine hl_y rfl rfl rfl (y_assign rfl rfl) ?_
    refine hl_nil ?_
    refine hq_then ?_
    refine hc_ret ?_
    exact hq_then_ret (hq_ret1 (()) rfl (rv_tmp rfl) rfl (fun _ h => Mm.pick h [] (by simp)))

end Go.Proofs.Ytcdidapkpfnphaa
