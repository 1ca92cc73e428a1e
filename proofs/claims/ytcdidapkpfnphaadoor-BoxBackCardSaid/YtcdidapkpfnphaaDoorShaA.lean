/- Words turned, numbers as bytes: what each call gives back. -/
import Derived.Test.YtcdidapkpfnphaaDoorTypes
import Derived.Test.YtcdidapkpfnphaaDoorSpecSha
namespace Go.Proofs.YtcdidapkpfnphaaDoor
open Go.RowKit
set_option linter.unusedVariables false
set_option linter.unusedSimpArgs false
set_option maxRecDepth 100000
theorem rotl_ct (x : UInt32) (n : Nat) (h0 : 1 ≤ n) (h1 : n ≤ 31) (w : World) : Ct0 Tryd.prog 84 #[vw x, .int .i64 (-(n : Int))] w (vw (rotR x n)) := by
  refine ct0_of Tryd.func84 rfl Tryd.ntmps84 rfl ?_
  refine hc_seq ?_
  refine hc_region ?_
  refine hl_y rfl rfl rfl (y_assign (v := vw 0) rfl rfl) ?_
  refine hl_nil ?_
  refine hq_then ?_
  refine hc_seq ?_
  refine hc_region ?_
  refine hl_y rfl rfl rfl (y_move rfl rfl) ?_
  refine hl_y rfl rfl rfl (y_conv rfl U3 U60 rfl (rot_c h0 h1)) ?_
  refine hl_y rfl rfl rfl (y_as (y_andq (q := 31) rfl rfl rfl) (congrArg vq (rot_a h0 h1))) ?_
  refine hl_y rfl rfl rfl (y_assign rfl rfl) ?_
  refine hl_nil ?_
  refine hq_then ?_
  refine hc_seq ?_
  refine hc_region ?_
  refine hl_y rfl rfl rfl (y_move rfl rfl) ?_
  refine hl_y rfl rfl rfl (y_move rfl rfl) ?_
  refine hl_y rfl rfl rfl (y_shlw (32 - n) rfl rfl rfl (rot_m h1) (by omega)) ?_
  refine hl_y rfl rfl rfl (y_move rfl rfl) ?_
  refine hl_y rfl rfl rfl (y_move rfl rfl) ?_
  refine hl_y rfl rfl rfl (y_as (y_subq (p := 32) rfl rfl rfl) (congrArg vq (rot_s h0 h1))) ?_
  refine hl_y rfl rfl rfl (y_shrw n rfl rfl rfl (rot_n h1) (by omega)) ?_
  refine hl_y rfl rfl rfl (y_orw rfl rfl rfl) ?_
  refine hl_y rfl rfl rfl (y_assign rfl rfl) ?_
  refine hl_nil ?_
  refine hq_then ?_
  refine hc_ret ?_
  exact hq_ret1 (()) rfl (rv_tmp rfl) rfl (fun _ h => Mm.pick h [] (by simp))

theorem sha_right_ct (x : UInt32) (n : Nat) (h0 : 1 ≤ n) (h1 : n ≤ 31) (w : World) : Ct0 Tryd.prog 63 #[vw x, vi n] w (vw (rotR x n)) := by
  refine ct0_of Tryd.func63 rfl Tryd.ntmps63 rfl ?_
  refine hc_seq ?_
  refine hc_region ?_
  refine hl_y rfl rfl rfl (y_assign (v := vw 0) rfl rfl) ?_
  refine hl_nil ?_
  refine hq_then ?_
  refine hc_seq ?_
  refine hc_region ?_
  refine hl_y rfl rfl rfl (y_move rfl rfl) ?_
  refine hl_y rfl rfl rfl (y_move rfl rfl) ?_
  refine hl_y rfl rfl rfl (y_negn rfl rfl (by omega)) ?_
  refine hl_i rfl rfl rfl (e_call0 rfl F84 rfl (fun w hw => rotl_ct _ n h0 h1 w) rfl) ?_; intro _
  refine hl_y rfl rfl rfl (y_assign rfl rfl) ?_
  refine hl_nil ?_
  refine hq_then ?_
  refine hc_ret ?_
  exact hq_ret1 (()) rfl (rv_tmp rfl) rfl (fun _ h => Mm.pick h [] (by simp))

theorem sha_low_ct (x : UInt32) (w : World) : Ct0 Tryd.prog 62 #[vw x] w (vw (lowW x)) := by
  refine ct0_of Tryd.func62 rfl Tryd.ntmps62 rfl ?_
  refine hc_seq ?_
  refine hc_region ?_
  refine hl_y rfl rfl rfl (y_assign (v := vw 0) rfl rfl) ?_
  refine hl_nil ?_
  refine hq_then ?_
  refine hc_seq ?_
  refine hc_region ?_
  refine hl_y rfl rfl rfl (y_move rfl rfl) ?_
  refine hl_i rfl rfl rfl (e_call0 rfl F63 rfl (fun w hw => sha_right_ct _ 7 (by omega) (by omega) w) rfl) ?_; intro _
  refine hl_y rfl rfl rfl (y_move rfl rfl) ?_
  refine hl_i rfl rfl rfl (e_call0 rfl F63 rfl (fun w hw => sha_right_ct _ 18 (by omega) (by omega) w) rfl) ?_; intro _
  refine hl_y rfl rfl rfl (y_xorw rfl rfl rfl) ?_
  refine hl_y rfl rfl rfl (y_move rfl rfl) ?_
  refine hl_y rfl rfl rfl (y_shrw (m := 3) rfl rfl rfl rfl (by omega)) ?_
  refine hl_y rfl rfl rfl (y_xorw rfl rfl rfl) ?_
  refine hl_y rfl rfl rfl (y_assign rfl rfl) ?_
  refine hl_nil ?_
  refine hq_then ?_
  refine hc_ret ?_
  exact hq_ret1 (()) rfl (rv_tmp rfl) rfl (fun _ h => Mm.pick h [] (by simp))

theorem sha_high_ct (x : UInt32) (w : World) : Ct0 Tryd.prog 64 #[vw x] w (vw (highW x)) := by
  refine ct0_of Tryd.func64 rfl Tryd.ntmps64 rfl ?_
  refine hc_seq ?_
  refine hc_region ?_
  refine hl_y rfl rfl rfl (y_assign (v := vw 0) rfl rfl) ?_
  refine hl_nil ?_
  refine hq_then ?_
  refine hc_seq ?_
  refine hc_region ?_
  refine hl_y rfl rfl rfl (y_move rfl rfl) ?_
  refine hl_i rfl rfl rfl (e_call0 rfl F63 rfl (fun w hw => sha_right_ct _ 17 (by omega) (by omega) w) rfl) ?_; intro _
  refine hl_y rfl rfl rfl (y_move rfl rfl) ?_
  refine hl_i rfl rfl rfl (e_call0 rfl F63 rfl (fun w hw => sha_right_ct _ 19 (by omega) (by omega) w) rfl) ?_; intro _
  refine hl_y rfl rfl rfl (y_xorw rfl rfl rfl) ?_
  refine hl_y rfl rfl rfl (y_move rfl rfl) ?_
  refine hl_y rfl rfl rfl (y_shrw (m := 10) rfl rfl rfl rfl (by omega)) ?_
  refine hl_y rfl rfl rfl (y_xorw rfl rfl rfl) ?_
  refine hl_y rfl rfl rfl (y_assign rfl rfl) ?_
  refine hl_nil ?_
  refine hq_then ?_
  refine hc_ret ?_
  exact hq_ret1 (()) rfl (rv_tmp rfl) rfl (fun _ h => Mm.pick h [] (by simp))

theorem num_Put_ct (n : UInt64) (m : Nat) (h1 : 1 ≤ m) (h8 : m ≤ 8) (w : World) : Ct Tryd.prog 61 #[vq n, vi m] w (fun v : Value => v) (fun v => [.row 5 v (ls vb (putL n m))]) := by
  refine ct_of Tryd.func61 rfl Tryd.ntmps61 rfl ?_
  refine hc_seq ?_
  refine hc_region ?_
  refine hl_y rfl rfl rfl (y_assign rfl rfl) ?_
  refine hl_nil ?_
  refine hq_then ?_
  refine hc_scope ?_
  refine hc_seq ?_
  refine hc_seq ?_
  refine hc_region ?_
  refine hl_y rfl rfl rfl (y_move rfl rfl) ?_
  refine hl_y rfl rfl rfl (y_as (y_lssn (q := 1) rfl rfl rfl ) (congrArg Value.bool (decide_eq_false (by omega)))) ?_
  refine hl_y rfl rfl rfl (y_move rfl rfl) ?_
  refine hl_yg 2 8 false rfl rfl rfl rfl rfl (y_move rfl rfl) ?_
  refine hl_yg 2 8 false rfl rfl rfl rfl rfl (y_as (y_gtrn (q := 8) rfl rfl rfl ) (congrArg Value.bool (decide_eq_false (by omega)))) ?_
  refine hl_y rfl rfl rfl (y_pick (b := false) rfl rfl rfl) ?_
  refine hl_nil ?_
  refine hq_then ?_
  refine hc_ifF rfl ?_
  refine hc_skip ?_
  refine hq_then ?_
  refine hc_seq ?_
  refine hc_label ?_
  refine hq_then ?_
  refine hc_seq ?_
  refine hc_seq ?_
  refine hc_region ?_
  refine hl_y rfl rfl rfl (y_move rfl rfl) ?_
  refine hl_y rfl rfl rfl (y_subn (q := 1) rfl rfl rfl (by omega) (by omega)) ?_
  refine hl_y rfl rfl rfl (y_assign rfl rfl) ?_
  refine hl_nil ?_
  refine hq_then ?_
  refine hc_block ?_
  refine hc_loop2 (fun k v => k ≤ m) (fun k v => m - k) (fun k v => [(0, vq n), (4, v), (5, .int .i64 ((m : Int) - 1 - (k : Int)))]) (fun k v => Mm w [.row 5 v (ls vb (putN n m k))]) (0) (.slice none 0 0) (by omega) ⟨rfl, rfl, lk_int rfl (by omega), trivial⟩ (fun _ h => mm_nil 5 _ h) ?_
  intro k v hk
  refine hc_seq ?_
  refine hc_block ?_
  refine hc_seq ?_
  refine hc_seq ?_
  refine hc_region ?_
  refine hl_y rfl rfl rfl (y_move rfl rfl) ?_
  refine hl_y rfl rfl rfl (y_lssi (q := 0) rfl rfl rfl ) ?_
  refine hl_nil ?_
  refine hq_then ?_
  refine hc_if rfl (fun c0 => ?_) (fun c0 => ?_)
  · replace c0 := of_decide_eq_true c0
    refine hc_exit ?_
    refine hq_then_exit (hq_in_other rfl (hq_then_exit (hq_loop_exit2 (hq_in_same (hq_then ?_)))))
    refine hc_seq ?_
    refine hc_region ?_
    refine hl_y rfl rfl rfl (y_move rfl rfl) ?_
    refine hl_y rfl rfl rfl (y_assign rfl rfl) ?_
    refine hl_nil ?_
    refine hq_then ?_
    refine hc_ret ?_
    exact hq_scope_ret (hq_ret1 (v) rfl (rv_tmp rfl) rfl (fun _ h => h.mm (by rw [putL, show k = m from by omega])))
  · replace c0 := of_decide_eq_false c0
    refine HC.sl (s' := [(0, vq n), (4, v), (5, vi (m - 1 - k))]) ⟨rfl, rfl, lk_int rfl (by omega), trivial⟩ ?_
    refine hc_skip ?_
    refine hq_then ?_
    refine hc_region ?_
    refine hl_y rfl rfl rfl (y_move rfl rfl) ?_
    refine hl_y rfl rfl rfl (y_move rfl rfl) ?_
    refine hl_y rfl rfl rfl (y_move rfl rfl) ?_
    refine hl_y rfl rfl rfl (y_muln (p := 8) rfl rfl rfl (by omega)) ?_
    refine hl_y rfl rfl rfl (y_shrq (m := (8 * (m - 1 - k))) rfl rfl rfl rfl (by omega)) ?_
    refine hl_y rfl rfl rfl (y_conv rfl U45 U5 rfl (conv_qb _)) ?_
    refine hl_i rfl rfl rfl (e_lit1 rfl S22 Z1_5 rfl rfl rfl) ?_; intro g24
    refine hl_i rfl rfl rfl (e_appb 1 rfl A22_5 rfl rfl rfl (rdB 0 rfl rfl rfl (by omega)) (show _ = ls vb [(n >>> UInt64.ofNat (8 * (m - 1 - k))).toUInt8] from rfl) (by rw [putN_len]; simp; omega)) ?_; intro y25
    refine hl_y rfl rfl rfl (y_assign rfl rfl) ?_
    refine hl_nil ?_
    refine hq_in (hq_then ?_)
    refine hc_region ?_
    refine hl_y rfl rfl rfl (y_move rfl rfl) ?_
    refine hl_y rfl rfl rfl (y_subi (q := 1) rfl rfl rfl (by omega) (by omega)) ?_
    refine hl_y rfl rfl rfl (y_assign rfl rfl) ?_
    refine hl_nil ?_
    exact hq_round2 (k + 1) (y25) (by omega) (by omega) ⟨rfl, rfl, lk_int rfl (by omega), trivial⟩ (fun _ h => (Mm.pick h [1] (by decide)).setr 0 rfl (by rw [putN_next]))

theorem num_Get_ct (l : List UInt8) (v : Value) (w : World) (hv : Rd w v (ls vb l)) (h1 : 1 ≤ l.length) (h8 : l.length ≤ 8) : Ct0 Tryd.prog 65 #[v] w (.tuple #[vq (getN l), vi 0]) := by
  refine ct0_of Tryd.func65 rfl Tryd.ntmps65 rfl ?_
  refine hc_seq ?_
  refine hc_region ?_
  refine hl_y rfl rfl rfl (y_assign (v := vq 0) rfl rfl) ?_
  refine hl_y rfl rfl rfl (y_assign (v := vi 0) rfl rfl) ?_
  refine hl_nil ?_
  refine hq_then ?_
  refine hc_seq ?_
  refine hc_seq ?_
  refine hc_region ?_
  refine hl_y rfl rfl rfl (y_move rfl rfl) ?_
  refine hl_y rfl rfl rfl (y_lenE (l.length) rfl rfl S22 rfl (rdF hv) (by first | rfl | simp only [ls_len, ns_len] | (simp only [ls_len, ns_len]; omega))) ?_
  refine hl_y rfl rfl rfl (y_as (y_eqln (q := 0) rfl rfl rfl ) (congrArg Value.bool (decide_eq_false (by omega)))) ?_
  refine hl_y rfl rfl rfl (y_move rfl rfl) ?_
  refine hl_yg 3 9 false rfl rfl rfl rfl rfl (y_move rfl rfl) ?_
  refine hl_yg 3 9 false rfl rfl rfl rfl rfl (y_lenE (l.length) rfl rfl S22 rfl (rdF hv) (by first | rfl | simp only [ls_len, ns_len] | (simp only [ls_len, ns_len]; omega))) ?_
  refine hl_yg 3 9 false rfl rfl rfl rfl rfl (y_as (y_gtrn (q := 8) rfl rfl rfl ) (congrArg Value.bool (decide_eq_false (by omega)))) ?_
  refine hl_y rfl rfl rfl (y_pick (b := false) rfl rfl rfl) ?_
  refine hl_nil ?_
  refine hq_then ?_
  refine hc_ifF rfl ?_
  refine hc_skip ?_
  refine hq_then ?_
  refine hc_seq ?_
  refine hc_seq ?_
  refine hc_region ?_
  refine hl_y rfl rfl rfl (y_move rfl rfl) ?_
  refine hl_y rfl rfl rfl (y_lenE (l.length) rfl rfl S22 rfl (rdF hv) (by first | rfl | simp only [ls_len, ns_len] | (simp only [ls_len, ns_len]; omega))) ?_
  refine hl_y rfl rfl rfl (y_move (v := vi 0) rfl rfl) ?_
  refine hl_nil ?_
  refine hq_then ?_
  refine hc_block ?_
  refine hc_loop (fun k => k ≤ l.length) (fun k => l.length - k) (fun k => [(14, v), (15, vi l.length), (16, vi k), (2, vq (getN (l.take k)))]) (fun k => Mm w []) (0) (by omega) ⟨rfl, lk_int rfl (by omega), lk_int rfl (by omega), rfl, trivial⟩ (fun _ h => h) ?_
  intro k hk
  refine hc_seq ?_
  refine hc_region ?_
  refine hl_y rfl rfl rfl (y_lssn rfl rfl rfl ) ?_
  refine hl_nil ?_
  refine hq_then ?_
  refine hc_seq ?_
  refine hc_if rfl (fun c1 => ?_) (fun c1 => ?_)
  · replace c1 := of_decide_eq_true c1
    refine hc_skip ?_
    refine hq_then ?_
    refine hc_seq ?_
    refine hc_block ?_
    refine hc_seq ?_
    refine hc_region ?_
    refine hl_y rfl rfl rfl (y_ixs rfl S22 rfl (rdF hv) rfl (by first | omega | (simp only [ls_len, ns_len]; omega) | (simp only [List.length_take, List.length_drop, ls_len, ns_len]; omega))) ?_
    refine hl_y rfl rfl rfl (y_ldb rfl O5 rfl (rdF hv) (by omega)) ?_
    refine hl_y rfl rfl rfl (y_assign rfl rfl) ?_
    refine hl_nil ?_
    refine hq_then ?_
    refine hc_region ?_
    refine hl_y rfl rfl rfl (y_move rfl rfl) ?_
    refine hl_y rfl rfl rfl (y_shlq (m := 8) rfl rfl rfl rfl (by omega)) ?_
    refine hl_y rfl rfl rfl (y_move rfl rfl) ?_
    refine hl_y rfl rfl rfl (y_conv rfl U5 U45 rfl (conv_bq _)) ?_
    refine hl_y rfl rfl rfl (y_orq rfl rfl rfl) ?_
    refine hl_y rfl rfl rfl (y_assign rfl rfl) ?_
    refine hl_nil ?_
    refine hq_in (hq_then ?_)
    refine hc_region ?_
    refine hl_y rfl rfl rfl (y_addn (q := 1) rfl rfl rfl (by omega)) ?_
    refine hl_y rfl rfl rfl (y_move rfl rfl) ?_
    refine hl_nil ?_
    exact hq_round (k + 1) (by omega) (by omega) ⟨rfl, lk_int rfl (by omega), lk_int rfl (by omega), lk_eq rfl (congrArg vq (getN_next (by omega))), trivial⟩ (fun _ h => h)
  · replace c1 := of_decide_eq_false c1
    refine hc_exit ?_
    refine hq_then_exit (hq_loop_exit (hq_in_same (hq_then ?_)))
    refine hc_seq ?_
    refine hc_region ?_
    refine hl_y rfl rfl rfl (y_move rfl rfl) ?_
    refine hl_y rfl rfl rfl (y_assign rfl rfl) ?_
    refine hl_y rfl rfl rfl (y_assign (v := vi 0) rfl rfl) ?_
    refine hl_nil ?_
    refine hq_then ?_
    refine hc_ret ?_
    exact hq_ret2 (()) rfl (rv_tmp rfl) (rv_tmp rfl) (by rw [List.take_of_length_le (by omega)]) (fun _ h => Mm.pick h [] (by simp))

end Go.Proofs.YtcdidapkpfnphaaDoor
