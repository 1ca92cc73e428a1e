/- Padding, the words of a block, a block: what each call gives back. -/
import Derived.Test.YtcdidapkpfnphaaDoorShaA
import Derived.Test.YtcdidapkpfnphaaDoorSpecShb
namespace Go.Proofs.YtcdidapkpfnphaaDoor
open Go.RowKit
set_option linter.unusedVariables false
set_option linter.unusedSimpArgs false
set_option maxRecDepth 100000
theorem sha_First_ct (w : World) : Ct0 Tryd.prog 33 #[] w (.agg (ns vw 8 (firstF)).toArray) := by
  refine ct0_of Tryd.func33 rfl Tryd.ntmps33 rfl ?_
  refine hc_seq ?_
  refine hc_region ?_
  refine hl_i rfl rfl rfl (e_alloc rfl Z29) ?_; intro g0
  refine hl_nil ?_
  refine hq_then ?_
  refine hc_seq ?_
  refine hc_region ?_
  refine hl_y rfl rfl rfl (y_bun firstF vw_1 rfl T29 O28 0 Z29 (by kernel_rfl)) ?_
  refine hl_i0 rfl rfl (e_stw 0 rfl T29.2 rfl rfl rfl (ns_onew _ _)) ?_; intro _
  refine hl_nil ?_
  refine hq_then ?_
  refine hc_ret ?_
  exact hq_ret1 (()) rfl (rv_arr 0 rfl T29 rfl (ns_len _ _).symm) rfl (fun _ h => Mm.pick h [] (by simp))

theorem sha_Pad_ct (n : Nat) (hn : n ≤ 9223372036854775807) (w : World) : Ct Tryd.prog 21 #[vi n] w (fun v : Value => v) (fun v => [.row 5 v (ls vb (padG n))]) := by
  have hz := zerosN_lt n
  refine ct_of Tryd.func21 rfl Tryd.ntmps21 rfl ?_
  refine hc_seq ?_
  refine hc_region ?_
  refine hl_y rfl rfl rfl (y_assign rfl rfl) ?_
  refine hl_nil ?_
  refine hq_then ?_
  refine hc_seq ?_
  refine hc_seq ?_
  rcases Decidable.em (1099511627776 < n) with c0 | c0
  · skip
    refine hc_region ?_
    refine hl_y rfl rfl rfl (y_move rfl rfl) ?_
    refine hl_y rfl rfl rfl (y_as (y_lssn (q := 0) rfl rfl rfl ) (congrArg Value.bool (decide_eq_false (by omega)))) ?_
    refine hl_y rfl rfl rfl (y_move rfl rfl) ?_
    refine hl_yg 2 7 false rfl rfl rfl rfl rfl (y_move rfl rfl) ?_
    refine hl_yg 2 7 false rfl rfl rfl rfl rfl (y_as (y_gtrn (q := 1099511627776) rfl rfl rfl ) (congrArg Value.bool (decide_eq_true (by omega)))) ?_
    refine hl_y rfl rfl rfl (y_pick (b := false) rfl rfl rfl) ?_
    refine hl_nil ?_
    refine hq_then ?_
    refine hc_ifT rfl ?_
    refine hc_seq ?_
    refine hc_region ?_
    refine hl_y rfl rfl rfl (y_assign rfl rfl) ?_
    refine hl_nil ?_
    refine hq_then ?_
    refine hc_ret ?_
    exact hq_then_ret (hq_ret1 (.slice none 0 0) rfl (rv_tmp rfl) rfl (fun _ h => (mm_nil 5 _ (Mm.pick h [] (by decide))).mm (by rw [padG, if_neg (by omega)]; rfl)))
  · skip
    refine hc_region ?_
    refine hl_y rfl rfl rfl (y_move rfl rfl) ?_
    refine hl_y rfl rfl rfl (y_as (y_lssn (q := 0) rfl rfl rfl ) (congrArg Value.bool (decide_eq_false (by omega)))) ?_
    refine hl_y rfl rfl rfl (y_move rfl rfl) ?_
    refine hl_yg 2 7 false rfl rfl rfl rfl rfl (y_move rfl rfl) ?_
    refine hl_yg 2 7 false rfl rfl rfl rfl rfl (y_as (y_gtrn (q := 1099511627776) rfl rfl rfl ) (congrArg Value.bool (decide_eq_false (by omega)))) ?_
    refine hl_y rfl rfl rfl (y_pick (b := false) rfl rfl rfl) ?_
    refine hl_nil ?_
    refine hq_then ?_
    refine hc_ifF rfl ?_
    refine hc_skip ?_
    refine hq_then ?_
    refine hc_seq ?_
    refine hc_region ?_
    refine hl_y rfl rfl rfl (y_move rfl rfl) ?_
    refine hl_y rfl rfl rfl (y_remn (q := 64) rfl rfl rfl (by omega)) ?_
    refine hl_y rfl rfl rfl (y_subn (p := 119) rfl rfl rfl (by omega) (by omega)) ?_
    refine hl_y rfl rfl rfl (y_as (y_remn (q := 64) rfl rfl rfl (by omega)) (congrArg (fun n : Nat => vi n) (rfl : _ = zerosN n))) ?_
    refine hl_y rfl rfl rfl (y_assign rfl rfl) ?_
    refine hl_nil ?_
    refine hq_then ?_
    refine hc_seq ?_
    refine hc_region ?_
    refine hl_y rfl rfl rfl (y_move rfl rfl) ?_
    refine hl_y rfl rfl rfl (y_addn (p := 1) rfl rfl rfl (by omega)) ?_
    refine hl_y rfl rfl rfl (y_move rfl rfl) ?_
    refine hl_y rfl rfl rfl (y_addn (p := 1) rfl rfl rfl (by omega)) ?_
    refine hl_y rfl rfl rfl (y_addn (q := 8) rfl rfl rfl (by omega)) ?_
    refine hl_i rfl rfl rfl (e_make rfl S22 M5 rfl rfl rfl (by omega) (by omega) (by omega)) ?_; intro g20
    refine hl_y rfl rfl rfl (y_assign rfl rfl) ?_
    refine HL.mem (fun _ h => Mm.set h 0 rfl (rep_ns _)) ?_
    refine hl_nil ?_
    refine hq_then ?_
    refine hc_seq ?_
    refine hc_region ?_
    refine hl_y rfl rfl rfl (y_move rfl rfl) ?_
    refine hl_y rfl rfl rfl (y_ixb (k := 0) rfl S22 rfl rfl (by omega)) ?_
    refine hl_i0 rfl rfl (e_stn (u := 128) 0 rfl O5.2 rfl rfl rfl rfl (by omega)) ?_; intro _
    refine HL.mem (mm_rowc 0 rfl (pad_take _) (ns_len _ _) (by omega) (by omega)) ?_
    refine hl_nil ?_
    refine hq_then ?_
    refine hc_seq ?_
    refine hc_region ?_
    refine hl_y rfl rfl rfl (y_move rfl rfl) ?_
    refine hl_y rfl rfl rfl (y_move rfl rfl) ?_
    refine hl_y rfl rfl rfl (y_conv rfl U3 U45 rfl (wrap_nq _)) ?_
    refine hl_y rfl rfl rfl (y_mulq (q := 8) rfl rfl rfl) ?_
    refine hl_i rfl rfl rfl (e_call rfl F61 rfl (fun w hw => num_Put_ct _ 8 (by omega) (by omega) w) rfl) ?_; intro y27
    refine hl_i rfl rfl rfl (e_appb 1 rfl A22_5 rfl rfl rfl (rdR 0 rfl) rfl (by simp [putL_len]; omega)) ?_; intro y28
    refine hl_y rfl rfl rfl (y_assign rfl rfl) ?_
    refine hl_nil ?_
    refine hq_then ?_
    refine hc_ret ?_
    exact hq_ret1 (y28) rfl (rv_tmp rfl) rfl (fun _ h => (Mm.pick h [1] (by decide)).mm (by rw [padG, if_pos (by omega)]; rfl))

theorem sha_Pad_neg (n : Int) (hb : -9223372036854775808 ≤ n) (hn : n < 0) (w : World) : Ct0 Tryd.prog 21 #[.int .i64 n] w (.slice none 0 0) := by
  refine ct0_of Tryd.func21 rfl Tryd.ntmps21 rfl ?_
  refine hc_seq ?_
  refine hc_region ?_
  refine hl_y rfl rfl rfl (y_assign rfl rfl) ?_
  refine hl_nil ?_
  refine hq_then ?_
  refine hc_seq ?_
  refine hc_seq ?_
  refine hc_region ?_
  refine hl_y rfl rfl rfl (y_move rfl rfl) ?_
  refine hl_y rfl rfl rfl (y_as (y_lssi (q := 0) rfl rfl rfl ) (congrArg Value.bool (decide_eq_true (by omega)))) ?_
  refine hl_y rfl rfl rfl (y_move rfl rfl) ?_
  refine hl_no 2 7 false true rfl rfl rfl rfl rfl rfl ?_
  refine hl_no 2 7 false true rfl rfl rfl rfl rfl rfl ?_
  refine hl_y rfl rfl rfl (y_pick (b := true) rfl rfl rfl) ?_
  refine hl_nil ?_
  refine hq_then ?_
  refine hc_ifT rfl ?_
  refine hc_seq ?_
  refine hc_region ?_
  refine hl_y rfl rfl rfl (y_assign rfl rfl) ?_
  refine hl_nil ?_
  refine hq_then ?_
  refine hc_ret ?_
  exact hq_then_ret (hq_ret1 (()) rfl (rv_tmp rfl) rfl (fun _ h => Mm.pick h [] (by simp)))

theorem r01_Put_ct (n : UInt64) (m : Nat) (h1 : 1 ≤ m) (h8 : m ≤ 8) (w : World) : Ct Tryd.prog 34 #[vq n, vi m] w (fun v : Value => v) (fun v => [.row 5 v (ls vb (putL n m))]) := by
  refine ct_of Tryd.func34 rfl Tryd.ntmps34 rfl ?_
  refine hc_seq ?_
  refine hc_region ?_
  refine hl_y rfl rfl rfl (y_assign rfl rfl) ?_
  refine hl_nil ?_
  refine hq_then ?_
  refine hc_seq ?_
  refine hc_seq ?_
  refine hc_region ?_
  refine hl_y rfl rfl rfl (y_move rfl rfl) ?_
  refine hl_y rfl rfl rfl (y_as (y_lssn (q := 1) rfl rfl rfl ) (congrArg Value.bool (decide_eq_false (by omega)))) ?_
  refine hl_y rfl rfl rfl (y_move rfl rfl) ?_
  refine hl_yg 2 9 false rfl rfl rfl rfl rfl (y_move rfl rfl) ?_
  refine hl_yg 2 9 false rfl rfl rfl rfl rfl (y_as (y_gtrn (q := 8) rfl rfl rfl ) (congrArg Value.bool (decide_eq_false (by omega)))) ?_
  refine hl_y rfl rfl rfl (y_pick (b := false) rfl rfl rfl) ?_
  refine hl_nil ?_
  refine hq_then ?_
  refine hc_ifF rfl ?_
  refine hc_skip ?_
  refine hq_then ?_
  refine hc_seq ?_
  refine hc_region ?_
  refine hl_y rfl rfl rfl (y_move rfl rfl) ?_
  refine hl_i rfl rfl rfl (e_make rfl S22 M5 rfl rfl rfl (by omega) (by omega) (by omega)) ?_; intro g14
  refine hl_y rfl rfl rfl (y_assign rfl rfl) ?_
  refine HL.mem (fun _ h => Mm.set h 0 rfl (rep_ns m)) ?_
  refine hl_nil ?_
  refine hq_then ?_
  refine hc_seq ?_
  refine hc_seq ?_
  refine hc_region ?_
  refine hl_y rfl rfl rfl (y_move rfl rfl) ?_
  refine hl_y rfl rfl rfl (y_subn (q := 1) rfl rfl rfl (by omega) (by omega)) ?_
  refine hl_y rfl rfl rfl (y_assign rfl rfl) ?_
  refine hl_nil ?_
  refine hq_then ?_
  refine hc_block ?_
  refine hc_loop (fun k => k ≤ m) (fun k => m - k) (fun k => [(0, vq (nD n k)), (5, .slice (some ⟨g14, 0, none⟩) m m), (6, .int .i64 ((m : Int) - 1 - (k : Int)))]) (fun k => Mm w [.blk g14 5 (ns vb m (fun i => if m - k ≤ i then (n >>> UInt64.ofNat (8 * (m - 1 - i))).toUInt8 else 0))]) (0) (by omega) ⟨lk_eq rfl (congrArg vq (nD_zero n).symm), rfl, lk_int rfl (by omega), trivial⟩ (fun _ h => Mm.set h 0 rfl (ns_ext fun i hi => (if_neg (by omega)).symm)) ?_
  intro k hk
  refine hc_seq ?_
  refine hc_seq ?_
  refine hc_region ?_
  refine hl_y rfl rfl rfl (y_move rfl rfl) ?_
  refine hl_y rfl rfl rfl (y_geqi (q := 0) rfl rfl rfl ) ?_
  refine hl_nil ?_
  refine hq_then ?_
  refine hc_if rfl (fun c0 => ?_) (fun c0 => ?_)
  · replace c0 := of_decide_eq_true c0
    refine HC.sl (s' := [(0, vq (nD n k)), (5, .slice (some ⟨g14, 0, none⟩) m m), (6, vi (m - 1 - k))]) ⟨rfl, rfl, lk_int rfl (by omega), trivial⟩ ?_
    refine hc_skip ?_
    refine hq_then ?_
    refine hc_seq ?_
    refine hc_block ?_
    refine hc_seq ?_
    refine hc_region ?_
    refine hl_y rfl rfl rfl (y_move rfl rfl) ?_
    refine hl_y rfl rfl rfl (y_move rfl rfl) ?_
    refine hl_y rfl rfl rfl (y_move rfl rfl) ?_
    refine hl_y rfl rfl rfl (y_remq (q := 256) rfl rfl rfl (by decide)) ?_
    refine hl_y rfl rfl rfl (y_conv rfl U45 U5 rfl (conv_qb _)) ?_
    refine hl_y rfl rfl rfl (y_ixb rfl S22 rfl rfl (by omega)) ?_
    refine hl_i0 rfl rfl (e_stn 0 rfl O5.2 rfl rfl rfl rfl (by omega)) ?_; intro _
    refine hl_nil ?_
    refine hq_then ?_
    refine hc_region ?_
    refine hl_y rfl rfl rfl (y_move rfl rfl) ?_
    refine hl_y rfl rfl rfl (y_quoq (q := 256) rfl rfl rfl (by decide)) ?_
    refine hl_y rfl rfl rfl (y_assign rfl rfl) ?_
    refine hl_nil ?_
    refine hq_in (hq_then ?_)
    refine hc_region ?_
    refine hl_y rfl rfl rfl (y_move rfl rfl) ?_
    refine hl_y rfl rfl rfl (y_subi (q := 1) rfl rfl rfl (by omega) (by omega)) ?_
    refine hl_y rfl rfl rfl (y_assign rfl rfl) ?_
    refine hl_nil ?_
    exact hq_round (k + 1) (by omega) (by omega) ⟨lk_eq rfl (congrArg vq (nD_next n k)), rfl, lk_int rfl (by omega), trivial⟩ (fun _ h => Mm.set h 0 rfl (by rw [Nat.zero_add]; exact put_step h8 (by omega)))
  · replace c0 := of_decide_eq_false c0
    refine hc_exit ?_
    refine hq_then_exit (hq_loop_exit (hq_in_same (hq_then ?_)))
    refine hc_seq ?_
    refine hc_region ?_
    refine hl_y rfl rfl rfl (y_move rfl rfl) ?_
    refine hl_y rfl rfl rfl (y_assign rfl rfl) ?_
    refine hl_nil ?_
    refine hq_then ?_
    refine hc_ret ?_
    exact hq_ret1 (.slice (some ⟨g14, 0, none⟩) m m) rfl (rv_tmp rfl) rfl (fun _ h => (mm_rown 0 rfl (by omega) _ h).mm (by rw [put_full (show m ≤ k from by omega)]; rfl))

theorem r01_Get_ct (l : List UInt8) (v : Value) (w : World) (hv : Rd w v (ls vb l)) (h1 : 1 ≤ l.length) (h8 : l.length ≤ 8) : Ct0 Tryd.prog 66 #[v] w (.tuple #[vq (getN l), vi 0]) := by
  refine ct0_of Tryd.func66 rfl Tryd.ntmps66 rfl ?_
  refine hc_seq ?_
  refine hc_region ?_
  refine hl_y rfl rfl rfl (y_assign (v := vq 0) rfl rfl) ?_
  refine hl_y rfl rfl rfl (y_assign (v := vi 0) rfl rfl) ?_
  refine hl_nil ?_
  refine hq_then ?_
  refine hc_seq ?_
  refine hc_seq ?_
  refine hc_region ?_
  refine hl_y rfl rfl rfl (y_move rfl rfl) ?_
  refine hl_y rfl rfl rfl (y_lenE (l.length) rfl rfl S22 rfl (rdF hv) (by first | rfl | simp only [ls_len, ns_len] | (simp only [ls_len, ns_len]; omega))) ?_
  refine hl_y rfl rfl rfl (y_as (y_lssn (q := 1) rfl rfl rfl ) (congrArg Value.bool (decide_eq_false (by omega)))) ?_
  refine hl_y rfl rfl rfl (y_move rfl rfl) ?_
  refine hl_yg 3 9 false rfl rfl rfl rfl rfl (y_move rfl rfl) ?_
  refine hl_yg 3 9 false rfl rfl rfl rfl rfl (y_lenE (l.length) rfl rfl S22 rfl (rdF hv) (by first | rfl | simp only [ls_len, ns_len] | (simp only [ls_len, ns_len]; omega))) ?_
  refine hl_yg 3 9 false rfl rfl rfl rfl rfl (y_as (y_gtrn (q := 8) rfl rfl rfl ) (congrArg Value.bool (decide_eq_false (by omega)))) ?_
  refine hl_y rfl rfl rfl (y_pick (b := false) rfl rfl rfl) ?_
  refine hl_nil ?_
  refine hq_then ?_
  refine hc_ifF rfl ?_
  refine hc_skip ?_
  refine hq_then ?_
  refine hc_seq ?_
  refine hc_region ?_
  refine hl_y rfl rfl rfl (y_assign (v := vq 0) rfl rfl) ?_
  refine hl_nil ?_
  refine hq_then ?_
  refine hc_seq ?_
  refine hc_seq ?_
  refine hc_region ?_
  refine hl_y rfl rfl rfl (y_assign (v := vi 0) rfl rfl) ?_
  refine hl_nil ?_
  refine hq_then ?_
  refine hc_block ?_
  refine hc_loop (fun k => k ≤ l.length) (fun k => l.length - k) (fun k => [(0, v), (4, vq (getN (l.take k))), (5, vi k)]) (fun k => Mm w []) (0) (by omega) ⟨rfl, rfl, lk_int rfl (by omega), trivial⟩ (fun _ h => h) ?_
  intro k hk
  refine hc_seq ?_
  refine hc_seq ?_
  refine hc_region ?_
  refine hl_y rfl rfl rfl (y_move rfl rfl) ?_
  refine hl_y rfl rfl rfl (y_move rfl rfl) ?_
  refine hl_y rfl rfl rfl (y_lenE (l.length) rfl rfl S22 rfl (rdF hv) (by first | rfl | simp only [ls_len, ns_len] | (simp only [ls_len, ns_len]; omega))) ?_
  refine hl_y rfl rfl rfl (y_lssn rfl rfl rfl ) ?_
  refine hl_nil ?_
  refine hq_then ?_
  refine hc_if rfl (fun c1 => ?_) (fun c1 => ?_)
  · replace c1 := of_decide_eq_true c1
    refine hc_skip ?_
    refine hq_then ?_
    refine hc_seq ?_
    refine hc_block ?_
    refine hc_region ?_
    refine hl_y rfl rfl rfl (y_move rfl rfl) ?_
    refine hl_y rfl rfl rfl (y_mulq (q := 256) rfl rfl rfl) ?_
    refine hl_y rfl rfl rfl (y_move rfl rfl) ?_
    refine hl_y rfl rfl rfl (y_move rfl rfl) ?_
    refine hl_y rfl rfl rfl (y_ixs rfl S22 rfl (rdF hv) rfl (by first | omega | (simp only [ls_len, ns_len]; omega) | (simp only [List.length_take, List.length_drop, ls_len, ns_len]; omega))) ?_
    refine hl_y rfl rfl rfl (y_ldb rfl O5 rfl (rdF hv) (by omega)) ?_
    refine hl_y rfl rfl rfl (y_conv rfl U5 U45 rfl (conv_bq _)) ?_
    refine hl_y rfl rfl rfl (y_addq rfl rfl rfl) ?_
    refine hl_y rfl rfl rfl (y_assign rfl rfl) ?_
    refine hl_nil ?_
    refine hq_in (hq_then ?_)
    refine hc_region ?_
    refine hl_y rfl rfl rfl (y_move rfl rfl) ?_
    refine hl_y rfl rfl rfl (y_addn (q := 1) rfl rfl rfl (by omega)) ?_
    refine hl_y rfl rfl rfl (y_assign rfl rfl) ?_
    refine hl_nil ?_
    exact hq_round (k + 1) (by omega) (by omega) ⟨rfl, lk_eq rfl (congrArg vq ((getM_next _ _).trans (getN_next (by omega)))), lk_int rfl (by omega), trivial⟩ (fun _ h => h)
  · replace c1 := of_decide_eq_false c1
    refine hc_exit ?_
    refine hq_then_exit (hq_loop_exit (hq_in_same (hq_then ?_)))
    refine hc_seq ?_
    refine hc_region ?_
    refine hl_y rfl rfl rfl (y_move rfl rfl) ?_
    refine hl_y rfl rfl rfl (y_assign rfl rfl) ?_
    refine hl_y rfl rfl rfl (y_assign (v := vi 0) rfl rfl) ?_
    refine hl_nil ?_
    refine hq_then ?_
    refine hc_ret ?_
    exact hq_ret2 (()) rfl (rv_tmp rfl) (rv_tmp rfl) (by rw [List.take_of_length_le (by omega)]) (fun _ h => Mm.pick h [] (by simp))

theorem r07_Pad_ct (n : Nat) (hn : n ≤ 9223372036854775807) (w : World) : Ct Tryd.prog 22 #[vi n] w (fun v : Value => v) (fun v => [.row 5 v (ls vb (padG n))]) := by
  have hz := zerosN_lt n
  refine ct_of Tryd.func22 rfl Tryd.ntmps22 rfl ?_
  refine hc_seq ?_
  refine hc_region ?_
  refine hl_y rfl rfl rfl (y_assign rfl rfl) ?_
  refine hl_nil ?_
  refine hq_then ?_
  refine hc_seq ?_
  refine hc_seq ?_
  rcases Decidable.em (1099511627776 < n) with c0 | c0
  · skip
    refine hc_region ?_
    refine hl_y rfl rfl rfl (y_move rfl rfl) ?_
    refine hl_y rfl rfl rfl (y_as (y_lssn (q := 0) rfl rfl rfl ) (congrArg Value.bool (decide_eq_false (by omega)))) ?_
    refine hl_y rfl rfl rfl (y_move rfl rfl) ?_
    refine hl_yg 2 6 false rfl rfl rfl rfl rfl (y_move rfl rfl) ?_
    refine hl_yg 2 6 false rfl rfl rfl rfl rfl (y_as (y_gtrn (q := 1099511627776) rfl rfl rfl ) (congrArg Value.bool (decide_eq_true (by omega)))) ?_
    refine hl_y rfl rfl rfl (y_pick (b := false) rfl rfl rfl) ?_
    refine hl_nil ?_
    refine hq_then ?_
    refine hc_ifT rfl ?_
    refine hc_seq ?_
    refine hc_region ?_
    refine hl_y rfl rfl rfl (y_assign rfl rfl) ?_
    refine hl_nil ?_
    refine hq_then ?_
    refine hc_ret ?_
    exact hq_then_ret (hq_ret1 (.slice none 0 0) rfl (rv_tmp rfl) rfl (fun _ h => (mm_nil 5 _ (Mm.pick h [] (by decide))).mm (by rw [padG, if_neg (by omega)]; rfl)))
  · skip
    refine hc_region ?_
    refine hl_y rfl rfl rfl (y_move rfl rfl) ?_
    refine hl_y rfl rfl rfl (y_as (y_lssn (q := 0) rfl rfl rfl ) (congrArg Value.bool (decide_eq_false (by omega)))) ?_
    refine hl_y rfl rfl rfl (y_move rfl rfl) ?_
    refine hl_yg 2 6 false rfl rfl rfl rfl rfl (y_move rfl rfl) ?_
    refine hl_yg 2 6 false rfl rfl rfl rfl rfl (y_as (y_gtrn (q := 1099511627776) rfl rfl rfl ) (congrArg Value.bool (decide_eq_false (by omega)))) ?_
    refine hl_y rfl rfl rfl (y_pick (b := false) rfl rfl rfl) ?_
    refine hl_nil ?_
    refine hq_then ?_
    refine hc_ifF rfl ?_
    refine hc_skip ?_
    refine hq_then ?_
    refine hc_seq ?_
    refine hc_region ?_
    refine hl_i rfl rfl rfl (e_lit1 rfl S22 Z1_5 rfl rfl rfl) ?_; intro g10
    refine hl_y rfl rfl rfl (y_assign rfl rfl) ?_
    refine HL.mem (mm_rowc 0 rfl (n := 1) (c := 1) rfl rfl (by omega) (by omega)) ?_
    refine hl_nil ?_
    refine hq_then ?_
    refine hc_seq ?_
    refine hc_block ?_
    refine hc_loop2 (fun k u => k ≤ zerosN n) (fun k u => zerosN n - k) (fun k u => [(0, vi n), (3, u)]) (fun k u => Mm w [.row 5 u (ls vb (128 :: List.replicate k 0))]) (0) (.slice (some ⟨g10, 0, none⟩) 1 1) (by omega) ⟨lk_int rfl (by omega), rfl, trivial⟩ (fun _ h => h) ?_
    intro k u hk
    refine hc_seq ?_
    refine hc_seq ?_
    refine hc_region ?_
    refine hl_y rfl rfl rfl (y_move rfl rfl) ?_
    refine hl_y rfl rfl rfl (y_move rfl rfl) ?_
    refine hl_y rfl rfl rfl (y_lenE ((1 + k)) rfl rfl S22 rfl (rdR 0 rfl) (by simp [ls]; omega)) ?_
    refine hl_y rfl rfl rfl (y_addn rfl rfl rfl (by omega)) ?_
    refine hl_y rfl rfl rfl (y_remn (q := 64) rfl rfl rfl (by omega)) ?_
    refine hl_y rfl rfl rfl (y_neqn (q := 56) rfl rfl rfl ) ?_
    refine hl_nil ?_
    refine hq_then ?_
    refine hc_if rfl (fun c2 => ?_) (fun c2 => ?_)
    · replace c2 := of_decide_eq_true c2
      refine hc_skip ?_
      refine hq_then ?_
      refine hc_block ?_
      refine hc_region ?_
      refine hl_y rfl rfl rfl (y_move rfl rfl) ?_
      refine hl_i rfl rfl rfl (e_lit1 rfl S22 Z1_5 rfl rfl rfl) ?_; intro g18
      refine hl_i rfl rfl rfl (e_appb 1 rfl A22_5 rfl rfl rfl (rdB 0 rfl rfl rfl (by omega)) (show _ = ls vb [0] from rfl) (by simp; omega)) ?_; intro y19
      refine hl_y rfl rfl rfl (y_assign rfl rfl) ?_
      refine hl_nil ?_
      refine hq_in (?_)
      exact hq_round2 (k + 1) (y19) (by have := pad_more hk c2; omega) (pad_more hk c2) ⟨lk_int rfl (by omega), rfl, trivial⟩ (fun _ h => (Mm.pick h [1] (by decide)).setr 0 rfl (by rw [List.cons_append, List.replicate_succ']))
    · replace c2 := of_decide_eq_false c2
      refine hc_exit ?_
      refine hq_then_exit (hq_loop_exit2 (hq_in_same (hq_then ?_)))
      refine hc_seq ?_
      refine hc_region ?_
      refine hl_y rfl rfl rfl (y_move rfl rfl) ?_
      refine hl_y rfl rfl rfl (y_move rfl rfl) ?_
      refine hl_y rfl rfl rfl (y_conv rfl U3 U45 rfl (wrap_nq _)) ?_
      refine hl_y rfl rfl rfl (y_mulq (q := 8) rfl rfl rfl) ?_
      refine hl_i rfl rfl rfl (e_call rfl F34 rfl (fun w hw => r01_Put_ct _ 8 (by omega) (by omega) w) rfl) ?_; intro y24
      refine hl_i rfl rfl rfl (e_appb 1 rfl A22_5 rfl rfl rfl (rdR 0 rfl) rfl (by simp [putL_len]; omega)) ?_; intro y25
      refine hl_y rfl rfl rfl (y_assign rfl rfl) ?_
      refine hl_nil ?_
      refine hq_then ?_
      refine hc_ret ?_
      exact hq_ret1 (y25) rfl (rv_tmp rfl) rfl (fun _ h => (Mm.pick h [1] (by decide)).mm (by rw [padG, if_pos (by omega), pad_done hk c2]; rfl))

theorem r07_Pad_neg (n : Int) (hb : -9223372036854775808 ≤ n) (hn : n < 0) (w : World) : Ct0 Tryd.prog 22 #[.int .i64 n] w (.slice none 0 0) := by
  refine ct0_of Tryd.func22 rfl Tryd.ntmps22 rfl ?_
  refine hc_seq ?_
  refine hc_region ?_
  refine hl_y rfl rfl rfl (y_assign rfl rfl) ?_
  refine hl_nil ?_
  refine hq_then ?_
  refine hc_seq ?_
  refine hc_seq ?_
  refine hc_region ?_
  refine hl_y rfl rfl rfl (y_move rfl rfl) ?_
  refine hl_y rfl rfl rfl (y_as (y_lssi (q := 0) rfl rfl rfl ) (congrArg Value.bool (decide_eq_true (by omega)))) ?_
  refine hl_y rfl rfl rfl (y_move rfl rfl) ?_
  refine hl_no 2 6 false true rfl rfl rfl rfl rfl rfl ?_
  refine hl_no 2 6 false true rfl rfl rfl rfl rfl rfl ?_
  refine hl_y rfl rfl rfl (y_pick (b := true) rfl rfl rfl) ?_
  refine hl_nil ?_
  refine hq_then ?_
  refine hc_ifT rfl ?_
  refine hc_seq ?_
  refine hc_region ?_
  refine hl_y rfl rfl rfl (y_assign rfl rfl) ?_
  refine hl_nil ?_
  refine hq_then ?_
  refine hc_ret ?_
  exact hq_then_ret (hq_ret1 (()) rfl (rv_tmp rfl) rfl (fun _ h => Mm.pick h [] (by simp)))

theorem sha_Words_ct (l : List UInt8) (v : Value)  (w : World) (hv : Rd w v (ls vb l)) : Ct0 Tryd.prog 23 #[v] w (.agg (ns vw 64 (wordsF l)).toArray) := by
  refine ct0_of Tryd.func23 rfl Tryd.ntmps23 rfl ?_
  refine hc_seq ?_
  refine hc_region ?_
  refine hl_i rfl rfl rfl (e_alloc rfl Z31) ?_; intro g2
  refine hl_nil ?_
  refine hq_then ?_
  refine hc_seq ?_
  refine hc_seq ?_
  refine hc_region ?_
  refine hl_y rfl rfl rfl (y_move rfl rfl) ?_
  refine hl_y rfl rfl rfl (y_lenE (l.length) rfl rfl S22 rfl (rdF hv) (by first | rfl | simp only [ls_len, ns_len] | (simp only [ls_len, ns_len]; omega))) ?_
  refine hl_y rfl rfl rfl (y_neqn (q := 64) rfl rfl rfl ) ?_
  refine hl_nil ?_
  refine hq_then ?_
  refine hc_if rfl (fun c0 => ?_) (fun c0 => ?_)
  · replace c0 := of_decide_eq_true c0
    refine hc_seq ?_
    refine hc_region ?_
    refine hl_y rfl rfl rfl (y_ldw 0 rfl T31 rfl rfl) ?_
    refine hl_i0 rfl rfl (e_stw 0 rfl T31.2 rfl rfl rfl (ns_onew _ _)) ?_; intro _
    refine hl_nil ?_
    refine hq_then ?_
    refine hc_ret ?_
    exact hq_then_ret (hq_ret1 (()) rfl (rv_arr 0 rfl T31 rfl (ns_len _ _).symm) (by rw [wordsF, if_neg c0]) (fun _ h => Mm.pick h [] (by simp)))
  · replace c0 := of_decide_eq_false c0
    replace c0 := Decidable.not_not.1 c0
    refine hc_skip ?_
    refine hq_then ?_
    refine hc_seq ?_
    refine hc_region ?_
    refine hl_y rfl rfl rfl (y_assign rfl rfl) ?_
    refine hl_nil ?_
    refine hq_then ?_
    refine hc_seq ?_
    refine hc_region ?_
    refine hl_y rfl rfl rfl (y_assign rfl rfl) ?_
    refine hl_nil ?_
    refine hq_then ?_
    refine hc_seq ?_
    refine hc_seq ?_
    refine hc_region ?_
    refine hl_y rfl rfl rfl (y_move (v := vi 0) rfl rfl) ?_
    refine hl_nil ?_
    refine hq_then ?_
    refine hc_block ?_
    refine hc_loop (fun k => k ≤ 64) (fun k => 64 - k) (fun k => [(0, v), (2, .pointer (some ⟨g2, 0, none⟩)), (3, .func (.func 62) #[] #[]), (4, .func (.func 64) #[] #[]), (12, vi k)]) (fun k => Mm w [.blk g2 31 (ns vw 64 (fun i => if i < k then sch l i else 0))]) (0) (by omega) ⟨rfl, rfl, rfl, rfl, lk_int rfl (by omega), trivial⟩ (fun _ h => h.mm (by simp)) ?_
    intro k hk
    refine hc_seq ?_
    refine hc_region ?_
    refine hl_y rfl rfl rfl (y_lssn (q := 64) rfl rfl rfl ) ?_
    refine hl_nil ?_
    refine hq_then ?_
    refine hc_seq ?_
    refine hc_if rfl (fun c1 => ?_) (fun c1 => ?_)
    · replace c1 := of_decide_eq_true c1
      refine hc_skip ?_
      refine hq_then ?_
      refine hc_seq ?_
      refine hc_block ?_
      refine hc_seq ?_
      refine hc_region ?_
      refine hl_y rfl rfl rfl (y_move rfl rfl) ?_
      refine hl_y rfl rfl rfl (y_assign rfl rfl) ?_
      refine hl_nil ?_
      refine hq_then ?_
      refine hc_seq ?_
      refine hc_seq ?_
      refine hc_region ?_
      refine hl_y rfl rfl rfl (y_move rfl rfl) ?_
      refine hl_y rfl rfl rfl (y_lssn (q := 16) rfl rfl rfl ) ?_
      refine hl_nil ?_
      refine hq_then ?_
      refine hc_if rfl (fun c2 => ?_) (fun c2 => ?_)
      · replace c2 := of_decide_eq_true c2
        refine hc_seq ?_
        refine hc_region ?_
        refine hl_y rfl rfl rfl (y_move rfl rfl) ?_
        refine hl_y rfl rfl rfl (y_move rfl rfl) ?_
        refine hl_y rfl rfl rfl (y_muln (p := 4) rfl rfl rfl (by omega)) ?_
        refine hl_y rfl rfl rfl (y_move rfl rfl) ?_
        refine hl_y rfl rfl rfl (y_addn (q := 1) rfl rfl rfl (by omega)) ?_
        refine hl_y rfl rfl rfl (y_muln (p := 4) rfl rfl rfl (by omega)) ?_
        refine hl_y rfl rfl rfl (y_slc2 rfl S22 rfl (rdF hv) rfl rfl (by omega) (by first | omega | (simp only [ls_len, ns_len]; omega) | (simp only [List.length_take, List.length_drop, ls_len, ns_len]; omega))) ?_
        refine hl_i rfl rfl rfl (e_call0 rfl F65 rfl (fun w hw => num_Get_ct _ _ w (((rdQ2 (rdF hv) (lo := (4 * k)) (hi := (4 * (k + 1))) (n := 4) (by omega) (by omega))) w hw) (by first | omega | (simp only [List.length_take, List.length_drop]; omega)) (by first | omega | (simp only [List.length_take, List.length_drop]; omega))) rfl) ?_; intro _
        refine hl_y rfl rfl rfl (y_move rfl rfl) ?_
        refine hl_y rfl rfl rfl (y_extract rfl rfl rfl) ?_
        refine hl_y rfl rfl rfl (y_extract rfl rfl rfl) ?_
        refine hl_y rfl rfl rfl (y_assign rfl rfl) ?_
        refine hl_y rfl rfl rfl (y_assign rfl rfl) ?_
        refine hl_nil ?_
        refine hq_then ?_
        refine hc_seq ?_
        refine hc_region ?_
        refine hl_y rfl rfl rfl (y_move rfl rfl) ?_
        refine hl_y rfl rfl rfl (y_move rfl rfl) ?_
        refine hl_y rfl rfl rfl (y_conv rfl U45 U28 rfl (conv_qw _)) ?_
        refine hl_y rfl rfl rfl (y_ixa1 rfl T31 O28 rfl rfl (by omega)) ?_
        refine hl_i0 rfl rfl (e_stn 0 rfl O28.2 rfl rfl rfl rfl (by omega)) ?_; intro _
        refine hl_nil ?_
        refine hq_then ?_
        refine hc_exit ?_
        refine hq_then_exit (hq_in_same (hq_then ?_))
        refine hc_region ?_
        refine hl_y rfl rfl rfl (y_addn (q := 1) rfl rfl rfl (by omega)) ?_
        refine hl_y rfl rfl rfl (y_move rfl rfl) ?_
        refine hl_nil ?_
        exact hq_round (k + 1) (by omega) (by omega) ⟨rfl, rfl, rfl, rfl, lk_int rfl (by omega), trivial⟩ (fun _ h => Mm.set h 0 rfl (ns_step (f := sch l) (g := fun _ => 0) (sch_lo c2).symm))
      · replace c2 := of_decide_eq_false c2
        refine hc_skip ?_
        refine hq_then ?_
        refine hc_draw (fun w2 => ∃ x : UInt32, Mm w [.blk g2 31 (ns vw 64 (upd (fun i => if i < k then sch l i else 0) k x))] w2) follows_mixed ?_
        refine hh_y 0 rfl rfl rfl rfl (by kernel_rfl) (by kernel_rfl) (by kernel_rfl) (fun _ h => ⟨(fun i => if i < k then sch l i else 0) k, (Mm.pick h [0] (by decide)).set 0 rfl (by rw [show upd (fun i => if i < k then sch l i else 0) k ((fun i => if i < k then sch l i else 0) k) = _ from upd_self])⟩) (yl_ex fun x_ => y_move rfl rfl) ?_
        refine hh_y 1 rfl rfl rfl rfl (by kernel_rfl) (by kernel_rfl) (by kernel_rfl) (fun _ h => ⟨(fun i => if i < k then sch l i else 0) k, (Mm.pick h [0] (by decide)).set 0 rfl (by rw [show upd (fun i => if i < k then sch l i else 0) k ((fun i => if i < k then sch l i else 0) k) = _ from upd_self])⟩) (yl_ex fun x_ => y_move rfl rfl) ?_
        refine hh_y 2 rfl rfl rfl rfl (by kernel_rfl) (by kernel_rfl) (by kernel_rfl) (fun _ h => ⟨(fun i => if i < k then sch l i else 0) k, (Mm.pick h [0] (by decide)).set 0 rfl (by rw [show upd (fun i => if i < k then sch l i else 0) k ((fun i => if i < k then sch l i else 0) k) = _ from upd_self])⟩) (yl_ex fun x_ => y_move rfl rfl) ?_
        refine hh_y 3 rfl rfl rfl rfl (by kernel_rfl) (by kernel_rfl) (by kernel_rfl) (fun _ h => ⟨(fun i => if i < k then sch l i else 0) k, (Mm.pick h [0] (by decide)).set 0 rfl (by rw [show upd (fun i => if i < k then sch l i else 0) k ((fun i => if i < k then sch l i else 0) k) = _ from upd_self])⟩) (yl_ex fun x_ => y_subn (q := 2) rfl rfl rfl (by omega) (by omega)) ?_
        refine hh_y 4 rfl rfl rfl rfl (by kernel_rfl) (by kernel_rfl) (by kernel_rfl) (fun _ h => ⟨(fun i => if i < k then sch l i else 0) k, (Mm.pick h [0] (by decide)).set 0 rfl (by rw [show upd (fun i => if i < k then sch l i else 0) k ((fun i => if i < k then sch l i else 0) k) = _ from upd_self])⟩) (yl_ex fun x_ => y_ixa1 rfl T31 O28 rfl rfl (by omega)) ?_
        refine hh_y 5 rfl rfl rfl rfl (by kernel_rfl) (by kernel_rfl) (by kernel_rfl) (fun _ h => ⟨(fun i => if i < k then sch l i else 0) k, (Mm.pick h [0] (by decide)).set 0 rfl (by rw [show upd (fun i => if i < k then sch l i else 0) k ((fun i => if i < k then sch l i else 0) k) = _ from upd_self])⟩) (yl_ex fun x_ => y_as (y_ldn 0 rfl O28 rfl rfl (by omega)) (congrArg vw ((if_neg (by omega)).trans (if_pos (by omega))))) ?_
        refine hh_y 7 rfl rfl rfl rfl (by kernel_rfl) (by kernel_rfl) (by kernel_rfl) (fun _ h => ⟨(fun i => if i < k then sch l i else 0) k, (Mm.pick h [0] (by decide)).set 0 rfl (by rw [show upd (fun i => if i < k then sch l i else 0) k ((fun i => if i < k then sch l i else 0) k) = _ from upd_self])⟩) (yl_ex fun x_ => y_move rfl rfl) ?_
        refine hh_y 8 rfl rfl rfl rfl (by kernel_rfl) (by kernel_rfl) (by kernel_rfl) (fun _ h => ⟨(fun i => if i < k then sch l i else 0) k, (Mm.pick h [0] (by decide)).set 0 rfl (by rw [show upd (fun i => if i < k then sch l i else 0) k ((fun i => if i < k then sch l i else 0) k) = _ from upd_self])⟩) (yl_ex fun x_ => y_subn (q := 7) rfl rfl rfl (by omega) (by omega)) ?_
        refine hh_y 9 rfl rfl rfl rfl (by kernel_rfl) (by kernel_rfl) (by kernel_rfl) (fun _ h => ⟨(fun i => if i < k then sch l i else 0) k, (Mm.pick h [0] (by decide)).set 0 rfl (by rw [show upd (fun i => if i < k then sch l i else 0) k ((fun i => if i < k then sch l i else 0) k) = _ from upd_self])⟩) (yl_ex fun x_ => y_ixa1 rfl T31 O28 rfl rfl (by omega)) ?_
        refine hh_y 10 rfl rfl rfl rfl (by kernel_rfl) (by kernel_rfl) (by kernel_rfl) (fun _ h => ⟨(fun i => if i < k then sch l i else 0) k, (Mm.pick h [0] (by decide)).set 0 rfl (by rw [show upd (fun i => if i < k then sch l i else 0) k ((fun i => if i < k then sch l i else 0) k) = _ from upd_self])⟩) (yl_ex fun x_ => y_as (y_ldn 0 rfl O28 rfl rfl (by omega)) (congrArg vw ((if_neg (by omega)).trans (if_pos (by omega))))) ?_
        refine hh_y 12 rfl rfl rfl rfl (by kernel_rfl) (by kernel_rfl) (by kernel_rfl) (fun _ h => ⟨(fun i => if i < k then sch l i else 0) k, (Mm.pick h [0] (by decide)).set 0 rfl (by rw [show upd (fun i => if i < k then sch l i else 0) k ((fun i => if i < k then sch l i else 0) k) = _ from upd_self])⟩) (yl_ex fun x_ => y_move rfl rfl) ?_
        refine hh_y 13 rfl rfl rfl rfl (by kernel_rfl) (by kernel_rfl) (by kernel_rfl) (fun _ h => ⟨(fun i => if i < k then sch l i else 0) k, (Mm.pick h [0] (by decide)).set 0 rfl (by rw [show upd (fun i => if i < k then sch l i else 0) k ((fun i => if i < k then sch l i else 0) k) = _ from upd_self])⟩) (yl_ex fun x_ => y_move rfl rfl) ?_
        refine hh_y 14 rfl rfl rfl rfl (by kernel_rfl) (by kernel_rfl) (by kernel_rfl) (fun _ h => ⟨(fun i => if i < k then sch l i else 0) k, (Mm.pick h [0] (by decide)).set 0 rfl (by rw [show upd (fun i => if i < k then sch l i else 0) k ((fun i => if i < k then sch l i else 0) k) = _ from upd_self])⟩) (yl_ex fun x_ => y_subn (q := 15) rfl rfl rfl (by omega) (by omega)) ?_
        refine hh_y 15 rfl rfl rfl rfl (by kernel_rfl) (by kernel_rfl) (by kernel_rfl) (fun _ h => ⟨(fun i => if i < k then sch l i else 0) k, (Mm.pick h [0] (by decide)).set 0 rfl (by rw [show upd (fun i => if i < k then sch l i else 0) k ((fun i => if i < k then sch l i else 0) k) = _ from upd_self])⟩) (yl_ex fun x_ => y_ixa1 rfl T31 O28 rfl rfl (by omega)) ?_
        refine hh_y 16 rfl rfl rfl rfl (by kernel_rfl) (by kernel_rfl) (by kernel_rfl) (fun _ h => ⟨(fun i => if i < k then sch l i else 0) k, (Mm.pick h [0] (by decide)).set 0 rfl (by rw [show upd (fun i => if i < k then sch l i else 0) k ((fun i => if i < k then sch l i else 0) k) = _ from upd_self])⟩) (yl_ex fun x_ => y_as (y_ldn 0 rfl O28 rfl rfl (by omega)) (congrArg vw ((if_neg (by omega)).trans (if_pos (by omega))))) ?_
        refine hh_y 19 rfl rfl rfl rfl (by kernel_rfl) (by kernel_rfl) (by kernel_rfl) (fun _ h => ⟨(fun i => if i < k then sch l i else 0) k, (Mm.pick h [0] (by decide)).set 0 rfl (by rw [show upd (fun i => if i < k then sch l i else 0) k ((fun i => if i < k then sch l i else 0) k) = _ from upd_self])⟩) (yl_ex fun x_ => y_move rfl rfl) ?_
        refine hh_y 20 rfl rfl rfl rfl (by kernel_rfl) (by kernel_rfl) (by kernel_rfl) (fun _ h => ⟨(fun i => if i < k then sch l i else 0) k, (Mm.pick h [0] (by decide)).set 0 rfl (by rw [show upd (fun i => if i < k then sch l i else 0) k ((fun i => if i < k then sch l i else 0) k) = _ from upd_self])⟩) (yl_ex fun x_ => y_subn (q := 16) rfl rfl rfl (by omega) (by omega)) ?_
        refine hh_y 21 rfl rfl rfl rfl (by kernel_rfl) (by kernel_rfl) (by kernel_rfl) (fun _ h => ⟨(fun i => if i < k then sch l i else 0) k, (Mm.pick h [0] (by decide)).set 0 rfl (by rw [show upd (fun i => if i < k then sch l i else 0) k ((fun i => if i < k then sch l i else 0) k) = _ from upd_self])⟩) (yl_ex fun x_ => y_ixa1 rfl T31 O28 rfl rfl (by omega)) ?_
        refine hh_y 22 rfl rfl rfl rfl (by kernel_rfl) (by kernel_rfl) (by kernel_rfl) (fun _ h => ⟨(fun i => if i < k then sch l i else 0) k, (Mm.pick h [0] (by decide)).set 0 rfl (by rw [show upd (fun i => if i < k then sch l i else 0) k ((fun i => if i < k then sch l i else 0) k) = _ from upd_self])⟩) (yl_ex fun x_ => y_as (y_ldn 0 rfl O28 rfl rfl (by omega)) (congrArg vw ((if_neg (by omega)).trans (if_pos (by omega))))) ?_
        refine hh_i 6 rfl rfl rfl rfl (by kernel_rfl) (e_call0 rfl F64 rfl (fun w hw => sha_high_ct _ w) rfl) (fun _ _ h => ⟨(fun i => if i < k then sch l i else 0) k, (Mm.pick h [0] (by decide)).set 0 rfl (by rw [show upd (fun i => if i < k then sch l i else 0) k ((fun i => if i < k then sch l i else 0) k) = _ from upd_self])⟩) ?_; intro _
        refine hh_y 11 rfl rfl rfl rfl (by kernel_rfl) (by kernel_rfl) (by kernel_rfl) (fun _ h => ⟨(fun i => if i < k then sch l i else 0) k, (Mm.pick h [0] (by decide)).set 0 rfl (by rw [show upd (fun i => if i < k then sch l i else 0) k ((fun i => if i < k then sch l i else 0) k) = _ from upd_self])⟩) (yl_ex fun x_ => y_addw rfl rfl rfl) ?_
        refine hh_i 17 rfl rfl rfl rfl (by kernel_rfl) (e_call0 rfl F62 rfl (fun w hw => sha_low_ct _ w) rfl) (fun _ _ h => ⟨(fun i => if i < k then sch l i else 0) k, (Mm.pick h [0] (by decide)).set 0 rfl (by rw [show upd (fun i => if i < k then sch l i else 0) k ((fun i => if i < k then sch l i else 0) k) = _ from upd_self])⟩) ?_; intro _
        refine hh_y 18 rfl rfl rfl rfl (by kernel_rfl) (by kernel_rfl) (by kernel_rfl) (fun _ h => ⟨(fun i => if i < k then sch l i else 0) k, (Mm.pick h [0] (by decide)).set 0 rfl (by rw [show upd (fun i => if i < k then sch l i else 0) k ((fun i => if i < k then sch l i else 0) k) = _ from upd_self])⟩) (yl_ex fun x_ => y_addw rfl rfl rfl) ?_
        refine hh_y 23 rfl rfl rfl rfl (by kernel_rfl) (by kernel_rfl) (by kernel_rfl) (fun _ h => ⟨(fun i => if i < k then sch l i else 0) k, (Mm.pick h [0] (by decide)).set 0 rfl (by rw [show upd (fun i => if i < k then sch l i else 0) k ((fun i => if i < k then sch l i else 0) k) = _ from upd_self])⟩) (yl_ex fun x_ => y_addw rfl rfl rfl) ?_
        refine hh_y 24 rfl rfl rfl rfl (by kernel_rfl) (by kernel_rfl) (by kernel_rfl) (fun _ h => ⟨(fun i => if i < k then sch l i else 0) k, (Mm.pick h [0] (by decide)).set 0 rfl (by rw [show upd (fun i => if i < k then sch l i else 0) k ((fun i => if i < k then sch l i else 0) k) = _ from upd_self])⟩) (yl_ex fun x_ => y_ixa1 rfl T31 O28 rfl rfl (by omega)) ?_
        refine hh_i0 25 rfl rfl rfl (by kernel_rfl) (e_stn 0 rfl O28.2 rfl rfl rfl rfl (by omega)) (fun _ _ h => ⟨_, Mm.pick h [0] (by decide)⟩) ?_; intro _
        refine hh_done (by kernel_rfl) ?_
        refine hq_in (hq_then ?_)
        refine hc_region ?_
        refine hl_y rfl rfl rfl (y_addn (q := 1) rfl rfl rfl (by omega)) ?_
        refine hl_y rfl rfl rfl (y_move rfl rfl) ?_
        refine hl_nil ?_
        exact hq_round (k + 1) (by omega) (by omega) ⟨rfl, rfl, rfl, rfl, lk_int rfl (by omega), trivial⟩ (fun _ h => Mm.set h 0 rfl (ns_step (f := sch l) (g := fun _ => 0) (sch_hi c2).symm))
    · replace c1 := of_decide_eq_false c1
      refine hc_exit ?_
      refine hq_then_exit (hq_loop_exit (hq_in_same (hq_then ?_)))
      refine hc_seq ?_
      refine hc_region ?_
      refine hl_y rfl rfl rfl (y_ldw 0 rfl T31 rfl rfl) ?_
      refine hl_i0 rfl rfl (e_stw 0 rfl T31.2 rfl rfl rfl (ns_onew _ _)) ?_; intro _
      refine hl_nil ?_
      refine hq_then ?_
      refine hc_ret ?_
      exact hq_ret1 (()) rfl (rv_arr 0 rfl T31 rfl (ns_len _ _).symm) (by rw [ns_full (by omega), wordsF, if_pos c0]) (fun _ h => Mm.pick h [] (by simp))

set_option maxHeartbeats 1000000 in
theorem sha_Block_ct (hf : Nat → UInt32) (l : List UInt8) (v : Value)  (w : World) (hv : Rd w v (ls vb l)) (hkl : KL w) : Ct0 Tryd.prog 25 #[.agg (ns vw 8 (hf)).toArray, v] w (.agg (ns vw 8 (blockF hf l)).toArray) := by
  refine ct0_of Tryd.func25 rfl Tryd.ntmps25 rfl ?_
  refine hc_seq ?_
  refine hc_region ?_
  refine hl_i rfl rfl rfl (e_boxa rfl rfl) ?_; intro g2
  refine hl_i rfl rfl rfl (e_alloc rfl Z29) ?_; intro g4
  refine hl_nil ?_
  refine hq_then ?_
  refine hc_seq ?_
  refine hc_seq ?_
  refine hc_region ?_
  refine hl_y rfl rfl rfl (y_move rfl rfl) ?_
  refine hl_y rfl rfl rfl (y_lenE (l.length) rfl rfl S22 rfl (rdF hv) (by first | rfl | simp only [ls_len, ns_len] | (simp only [ls_len, ns_len]; omega))) ?_
  refine hl_y rfl rfl rfl (y_neqn (q := 64) rfl rfl rfl ) ?_
  refine hl_nil ?_
  refine hq_then ?_
  refine hc_if rfl (fun c0 => ?_) (fun c0 => ?_)
  · replace c0 := of_decide_eq_true c0
    refine hc_seq ?_
    refine hc_region ?_
    refine hl_y rfl rfl rfl (y_ldw 1 rfl T29 rfl rfl) ?_
    refine hl_i0 rfl rfl (e_stw 0 rfl T29.2 rfl rfl rfl (ns_onew _ _)) ?_; intro _
    refine hl_nil ?_
    refine hq_then ?_
    refine hc_ret ?_
    exact hq_then_ret (hq_ret1 (()) rfl (rv_arr 0 rfl T29 rfl (ns_len _ _).symm) (by rw [blockF, if_neg c0]) (fun _ h => Mm.pick h [] (by simp)))
  · replace c0 := of_decide_eq_false c0
    replace c0 := Decidable.not_not.1 c0
    refine hc_skip ?_
    refine hq_then ?_
    refine hc_seq ?_
    refine hc_region ?_
    refine hl_y rfl rfl rfl (y_ldw 1 rfl T29 rfl rfl) ?_
    refine hl_i rfl rfl rfl (e_alloc rfl Z29) ?_; intro g5
    refine hl_i0 rfl rfl (e_stw 0 rfl T29.2 rfl rfl rfl (ns_onew _ _)) ?_; intro _
    refine hl_nil ?_
    refine hq_then ?_
    refine hc_seq ?_
    refine hc_seq ?_
    refine hc_region ?_
    refine hl_y rfl rfl rfl (y_move rfl rfl) ?_
    refine hl_i rfl rfl rfl (e_call0 rfl F23 rfl (fun w hw => sha_Words_ct _ _ w ((rdF hv) w hw)) rfl) ?_; intro _
    refine hl_y rfl rfl rfl (y_move (v := vi 0) rfl rfl) ?_
    refine hl_nil ?_
    refine hq_then ?_
    refine hc_block ?_
    refine hc_loop (fun k => k ≤ 64) (fun k => 64 - k) (fun k => [(2, .pointer (some ⟨g2, 0, none⟩)), (4, .pointer (some ⟨g4, 0, none⟩)), (5, .pointer (some ⟨g5, 0, none⟩)), (19, .agg (ns vw 64 (sch l)).toArray), (20, vi k)]) (fun k => Mm w [.blk g5 29 (ns vw 8 hf), .blk g4 29 (ns vw 8 (fun _ => 0)), .blk g2 29 (ns vw 8 (blkS l hf k))]) (0) (by omega) ⟨rfl, rfl, rfl, lk_eq rfl (by rw [wordsF, if_pos c0]), lk_int rfl (by omega), trivial⟩ (fun _ h => h) ?_
    intro k hk
    refine hc_seq ?_
    refine hc_region ?_
    refine hl_y rfl rfl rfl (y_lssn (q := 64) rfl rfl rfl ) ?_
    refine hl_nil ?_
    refine hq_then ?_
    refine hc_seq ?_
    refine hc_if rfl (fun c1 => ?_) (fun c1 => ?_)
    · replace c1 := of_decide_eq_true c1
      refine hc_skip ?_
      refine hq_then ?_
      refine hc_seq ?_
      refine hc_block ?_
      refine hc_seq ?_
      refine hc_region ?_
      refine hl_y rfl rfl rfl (y_move rfl rfl) ?_
      refine hl_y rfl rfl rfl (y_ixn rfl T31 O28 rfl rfl (by omega) (by omega)) ?_
      refine hl_y rfl rfl rfl (y_assign rfl rfl) ?_
      refine hl_y rfl rfl rfl (y_assign rfl rfl) ?_
      refine hl_nil ?_
      refine hq_then ?_
      refine hc_seq ?_
      refine hc_drawP [0, 1, 2] follows_mixed ?_
      refine hh_y 0 rfl rfl rfl rfl (by kernel_rfl) (by kernel_rfl) (by kernel_rfl) (fun _ h => Mm.pick h [0, 1, 2] (by decide)) (y_ixa1 (k := 0) rfl T29 O28 rfl rfl (by omega)) ?_
      refine hh_y 1 rfl rfl rfl rfl (by kernel_rfl) (by kernel_rfl) (by kernel_rfl) (fun _ h => Mm.pick h [0, 1, 2] (by decide)) (y_ldn 2 rfl O28 rfl rfl (by omega)) ?_
      refine hh_y 2 rfl rfl rfl rfl (by kernel_rfl) (by kernel_rfl) (by kernel_rfl) (fun _ h => Mm.pick h [0, 1, 2] (by decide)) (y_ixa1 (k := 4) rfl T29 O28 rfl rfl (by omega)) ?_
      refine hh_y 3 rfl rfl rfl rfl (by kernel_rfl) (by kernel_rfl) (by kernel_rfl) (fun _ h => Mm.pick h [0, 1, 2] (by decide)) (y_ldn 2 rfl O28 rfl rfl (by omega)) ?_
      refine hh_y 4 rfl rfl rfl rfl (by kernel_rfl) (by kernel_rfl) (by kernel_rfl) (fun _ h => Mm.pick h [0, 1, 2] (by decide)) (y_assign rfl rfl) ?_
      refine hh_y 5 rfl rfl rfl rfl (by kernel_rfl) (by kernel_rfl) (by kernel_rfl) (fun _ h => Mm.pick h [0, 1, 2] (by decide)) (y_assign rfl rfl) ?_
      refine hh_done (by kernel_rfl) ?_
      refine hq_then ?_
      refine hc_seq ?_
      refine hc_drawP [0, 1, 2] follows_mixed ?_
      refine hh_y 0 rfl rfl rfl rfl (by kernel_rfl) (by kernel_rfl) (by kernel_rfl) (fun _ h => Mm.pick h [0, 1, 2] (by decide)) (y_ixa1 (k := 7) rfl T29 O28 rfl rfl (by omega)) ?_
      refine hh_y 1 rfl rfl rfl rfl (by kernel_rfl) (by kernel_rfl) (by kernel_rfl) (fun _ h => Mm.pick h [0, 1, 2] (by decide)) (y_ldn 2 rfl O28 rfl rfl (by omega)) ?_
      refine hh_y 2 rfl rfl rfl rfl (by kernel_rfl) (by kernel_rfl) (by kernel_rfl) (fun _ h => Mm.pick h [0, 1, 2] (by decide)) (y_move rfl rfl) ?_
      refine hh_y 4 rfl rfl rfl rfl (by kernel_rfl) (by kernel_rfl) (by kernel_rfl) (fun _ h => Mm.pick h [0, 1, 2] (by decide)) (y_move rfl rfl) ?_
      refine hh_y 7 rfl rfl rfl rfl (by kernel_rfl) (by kernel_rfl) (by kernel_rfl) (fun _ h => Mm.pick h [0, 1, 2] (by decide)) (y_move rfl rfl) ?_
      refine hh_y 11 rfl rfl rfl rfl (by kernel_rfl) (by kernel_rfl) (by kernel_rfl) (fun _ h => Mm.pick h [0, 1, 2] (by decide)) (y_ixa1 (k := 6) rfl T29 O28 rfl rfl (by omega)) ?_
      refine hh_y 12 rfl rfl rfl rfl (by kernel_rfl) (by kernel_rfl) (by kernel_rfl) (fun _ h => Mm.pick h [0, 1, 2] (by decide)) (y_ldn 2 rfl O28 rfl rfl (by omega)) ?_
      refine hh_y 13 rfl rfl rfl rfl (by kernel_rfl) (by kernel_rfl) (by kernel_rfl) (fun _ h => Mm.pick h [0, 1, 2] (by decide)) (y_move rfl rfl) ?_
      refine hh_y 14 rfl rfl rfl rfl (by kernel_rfl) (by kernel_rfl) (by kernel_rfl) (fun _ h => Mm.pick h [0, 1, 2] (by decide)) (y_ixa1 (k := 5) rfl T29 O28 rfl rfl (by omega)) ?_
      refine hh_y 15 rfl rfl rfl rfl (by kernel_rfl) (by kernel_rfl) (by kernel_rfl) (fun _ h => Mm.pick h [0, 1, 2] (by decide)) (y_ldn 2 rfl O28 rfl rfl (by omega)) ?_
      refine hh_y 16 rfl rfl rfl rfl (by kernel_rfl) (by kernel_rfl) (by kernel_rfl) (fun _ h => Mm.pick h [0, 1, 2] (by decide)) (y_ixa1 (k := 6) rfl T29 O28 rfl rfl (by omega)) ?_
      refine hh_y 17 rfl rfl rfl rfl (by kernel_rfl) (by kernel_rfl) (by kernel_rfl) (fun _ h => Mm.pick h [0, 1, 2] (by decide)) (y_ldn 2 rfl O28 rfl rfl (by omega)) ?_
      refine hh_y 18 rfl rfl rfl rfl (by kernel_rfl) (by kernel_rfl) (by kernel_rfl) (fun _ h => Mm.pick h [0, 1, 2] (by decide)) (y_xorw rfl rfl rfl) ?_
      refine hh_y 19 rfl rfl rfl rfl (by kernel_rfl) (by kernel_rfl) (by kernel_rfl) (fun _ h => Mm.pick h [0, 1, 2] (by decide)) (y_andw rfl rfl rfl) ?_
      refine hh_y 20 rfl rfl rfl rfl (by kernel_rfl) (by kernel_rfl) (by kernel_rfl) (fun _ h => Mm.pick h [0, 1, 2] (by decide)) (y_xorw rfl rfl rfl) ?_
      refine hh_y 22 rfl rfl rfl rfl (by kernel_rfl) (by kernel_rfl) (by kernel_rfl) (fun _ h => Mm.pick h [0, 1, 2] (by decide)) (y_move rfl rfl) ?_
      refine hh_y 23 rfl rfl rfl rfl (by kernel_rfl) (by kernel_rfl) (by kernel_rfl) (fun _ h => Mm.pick h [0, 1, 2] (by decide)) (y_ixa1 rfl T31 O28 rfl rfl (by omega)) ?_
      refine hh_y 24 rfl rfl rfl rfl (by kernel_rfl) (by kernel_rfl) (by kernel_rfl) (fun _ h => Mm.pick h [0, 1, 2] (by decide)) (y_ldk hkl rfl O28 rfl (by omega)) ?_
      refine hh_y 26 rfl rfl rfl rfl (by kernel_rfl) (by kernel_rfl) (by kernel_rfl) (fun _ h => Mm.pick h [0, 1, 2] (by decide)) (y_move rfl rfl) ?_
      refine hh_i 3 rfl rfl rfl rfl (by kernel_rfl) (e_call0 rfl F63 rfl (fun w hw => sha_right_ct _ 6 (by omega) (by omega) w) rfl) (fun _ _ h => Mm.pick h [0, 1, 2] (by decide)) ?_; intro _
      refine hh_i 5 rfl rfl rfl rfl (by kernel_rfl) (e_call0 rfl F63 rfl (fun w hw => sha_right_ct _ 11 (by omega) (by omega) w) rfl) (fun _ _ h => Mm.pick h [0, 1, 2] (by decide)) ?_; intro _
      refine hh_y 6 rfl rfl rfl rfl (by kernel_rfl) (by kernel_rfl) (by kernel_rfl) (fun _ h => Mm.pick h [0, 1, 2] (by decide)) (y_xorw rfl rfl rfl) ?_
      refine hh_i 8 rfl rfl rfl rfl (by kernel_rfl) (e_call0 rfl F63 rfl (fun w hw => sha_right_ct _ 25 (by omega) (by omega) w) rfl) (fun _ _ h => Mm.pick h [0, 1, 2] (by decide)) ?_; intro _
      refine hh_y 9 rfl rfl rfl rfl (by kernel_rfl) (by kernel_rfl) (by kernel_rfl) (fun _ h => Mm.pick h [0, 1, 2] (by decide)) (y_xorw rfl rfl rfl) ?_
      refine hh_y 10 rfl rfl rfl rfl (by kernel_rfl) (by kernel_rfl) (by kernel_rfl) (fun _ h => Mm.pick h [0, 1, 2] (by decide)) (y_addw rfl rfl rfl) ?_
      refine hh_y 21 rfl rfl rfl rfl (by kernel_rfl) (by kernel_rfl) (by kernel_rfl) (fun _ h => Mm.pick h [0, 1, 2] (by decide)) (y_addw rfl rfl rfl) ?_
      refine hh_y 25 rfl rfl rfl rfl (by kernel_rfl) (by kernel_rfl) (by kernel_rfl) (fun _ h => Mm.pick h [0, 1, 2] (by decide)) (y_addw rfl rfl rfl) ?_
      refine hh_y 27 rfl rfl rfl rfl (by kernel_rfl) (by kernel_rfl) (by kernel_rfl) (fun _ h => Mm.pick h [0, 1, 2] (by decide)) (y_addw rfl rfl rfl) ?_
      refine hh_y 28 rfl rfl rfl rfl (by kernel_rfl) (by kernel_rfl) (by kernel_rfl) (fun _ h => Mm.pick h [0, 1, 2] (by decide)) (y_assign rfl rfl) ?_
      refine hh_done (by kernel_rfl) ?_
      refine hq_then ?_
      refine hc_seq ?_
      refine hc_drawP [0, 1, 2] follows_mixed ?_
      refine hh_y 0 rfl rfl rfl rfl (by kernel_rfl) (by kernel_rfl) (by kernel_rfl) (fun _ h => Mm.pick h [0, 1, 2] (by decide)) (y_move rfl rfl) ?_
      refine hh_y 2 rfl rfl rfl rfl (by kernel_rfl) (by kernel_rfl) (by kernel_rfl) (fun _ h => Mm.pick h [0, 1, 2] (by decide)) (y_move rfl rfl) ?_
      refine hh_y 5 rfl rfl rfl rfl (by kernel_rfl) (by kernel_rfl) (by kernel_rfl) (fun _ h => Mm.pick h [0, 1, 2] (by decide)) (y_move rfl rfl) ?_
      refine hh_y 8 rfl rfl rfl rfl (by kernel_rfl) (by kernel_rfl) (by kernel_rfl) (fun _ h => Mm.pick h [0, 1, 2] (by decide)) (y_move rfl rfl) ?_
      refine hh_y 9 rfl rfl rfl rfl (by kernel_rfl) (by kernel_rfl) (by kernel_rfl) (fun _ h => Mm.pick h [0, 1, 2] (by decide)) (y_ixa1 (k := 1) rfl T29 O28 rfl rfl (by omega)) ?_
      refine hh_y 10 rfl rfl rfl rfl (by kernel_rfl) (by kernel_rfl) (by kernel_rfl) (fun _ h => Mm.pick h [0, 1, 2] (by decide)) (y_ldn 2 rfl O28 rfl rfl (by omega)) ?_
      refine hh_y 11 rfl rfl rfl rfl (by kernel_rfl) (by kernel_rfl) (by kernel_rfl) (fun _ h => Mm.pick h [0, 1, 2] (by decide)) (y_andw rfl rfl rfl) ?_
      refine hh_y 12 rfl rfl rfl rfl (by kernel_rfl) (by kernel_rfl) (by kernel_rfl) (fun _ h => Mm.pick h [0, 1, 2] (by decide)) (y_ixa1 (k := 2) rfl T29 O28 rfl rfl (by omega)) ?_
      refine hh_y 13 rfl rfl rfl rfl (by kernel_rfl) (by kernel_rfl) (by kernel_rfl) (fun _ h => Mm.pick h [0, 1, 2] (by decide)) (y_ldn 2 rfl O28 rfl rfl (by omega)) ?_
      refine hh_y 14 rfl rfl rfl rfl (by kernel_rfl) (by kernel_rfl) (by kernel_rfl) (fun _ h => Mm.pick h [0, 1, 2] (by decide)) (y_move rfl rfl) ?_
      refine hh_y 15 rfl rfl rfl rfl (by kernel_rfl) (by kernel_rfl) (by kernel_rfl) (fun _ h => Mm.pick h [0, 1, 2] (by decide)) (y_ixa1 (k := 1) rfl T29 O28 rfl rfl (by omega)) ?_
      refine hh_y 16 rfl rfl rfl rfl (by kernel_rfl) (by kernel_rfl) (by kernel_rfl) (fun _ h => Mm.pick h [0, 1, 2] (by decide)) (y_ldn 2 rfl O28 rfl rfl (by omega)) ?_
      refine hh_y 17 rfl rfl rfl rfl (by kernel_rfl) (by kernel_rfl) (by kernel_rfl) (fun _ h => Mm.pick h [0, 1, 2] (by decide)) (y_orw rfl rfl rfl) ?_
      refine hh_y 18 rfl rfl rfl rfl (by kernel_rfl) (by kernel_rfl) (by kernel_rfl) (fun _ h => Mm.pick h [0, 1, 2] (by decide)) (y_andw rfl rfl rfl) ?_
      refine hh_y 19 rfl rfl rfl rfl (by kernel_rfl) (by kernel_rfl) (by kernel_rfl) (fun _ h => Mm.pick h [0, 1, 2] (by decide)) (y_orw rfl rfl rfl) ?_
      refine hh_i 1 rfl rfl rfl rfl (by kernel_rfl) (e_call0 rfl F63 rfl (fun w hw => sha_right_ct _ 2 (by omega) (by omega) w) rfl) (fun _ _ h => Mm.pick h [0, 1, 2] (by decide)) ?_; intro _
      refine hh_i 3 rfl rfl rfl rfl (by kernel_rfl) (e_call0 rfl F63 rfl (fun w hw => sha_right_ct _ 13 (by omega) (by omega) w) rfl) (fun _ _ h => Mm.pick h [0, 1, 2] (by decide)) ?_; intro _
      refine hh_y 4 rfl rfl rfl rfl (by kernel_rfl) (by kernel_rfl) (by kernel_rfl) (fun _ h => Mm.pick h [0, 1, 2] (by decide)) (y_xorw rfl rfl rfl) ?_
      refine hh_i 6 rfl rfl rfl rfl (by kernel_rfl) (e_call0 rfl F63 rfl (fun w hw => sha_right_ct _ 22 (by omega) (by omega) w) rfl) (fun _ _ h => Mm.pick h [0, 1, 2] (by decide)) ?_; intro _
      refine hh_y 7 rfl rfl rfl rfl (by kernel_rfl) (by kernel_rfl) (by kernel_rfl) (fun _ h => Mm.pick h [0, 1, 2] (by decide)) (y_xorw rfl rfl rfl) ?_
      refine hh_y 20 rfl rfl rfl rfl (by kernel_rfl) (by kernel_rfl) (by kernel_rfl) (fun _ h => Mm.pick h [0, 1, 2] (by decide)) (y_addw rfl rfl rfl) ?_
      refine hh_y 21 rfl rfl rfl rfl (by kernel_rfl) (by kernel_rfl) (by kernel_rfl) (fun _ h => Mm.pick h [0, 1, 2] (by decide)) (y_assign rfl rfl) ?_
      refine hh_done (by kernel_rfl) ?_
      refine hq_then ?_
      refine hc_seq ?_
      refine hc_drawP [] follows_mixed ?_
      refine hh_y 0 rfl rfl rfl rfl (by kernel_rfl) (by kernel_rfl) (by kernel_rfl) (fun _ h => Mm.pick h [] (by decide)) (y_slcal (lo := 1) rfl T29 O28 rfl rfl (by omega)) ?_
      refine hh_y 1 rfl rfl rfl rfl (by kernel_rfl) (by kernel_rfl) (by kernel_rfl) (fun _ h => Mm.pick h [] (by decide)) (y_slcah (hi := 7) rfl T29 O28 rfl rfl (by omega) (by omega)) ?_
      refine hh_i 2 rfl rfl rfl rfl (by kernel_rfl) (e_cpw 2 rfl S64 rfl rfl rfl (rdB 2 rfl (ns_sub (by omega)) (ns_len _ _) (by omega)) (by omega) (by omega)) (fun _ _ h => Mm.pick_set h [] (by decide) (by decide)) ?_; intro _
      refine hh_done (by kernel_rfl) ?_
      refine hq_then ?_
      refine hc_seq ?_
      refine hc_region ?_
      refine hl_y rfl rfl rfl (y_move rfl rfl) ?_
      refine hl_y rfl rfl rfl (y_move rfl rfl) ?_
      refine hl_y rfl rfl rfl (y_addw rfl rfl rfl) ?_
      refine hl_y rfl rfl rfl (y_ixa1 (k := 0) rfl T29 O28 rfl rfl (by omega)) ?_
      refine hl_i0 rfl rfl (e_stn 2 rfl O28.2 rfl rfl rfl rfl (by omega)) ?_; intro _
      refine hl_nil ?_
      refine hq_then ?_
      refine hc_region ?_
      refine hl_y rfl rfl rfl (y_ixa1 (k := 4) rfl T29 O28 rfl rfl (by omega)) ?_
      refine hl_y rfl rfl rfl (y_ldn 2 rfl O28 rfl rfl (by omega)) ?_
      refine hl_y rfl rfl rfl (y_move rfl rfl) ?_
      refine hl_y rfl rfl rfl (y_addw rfl rfl rfl) ?_
      refine hl_y rfl rfl rfl (y_ixa1 (k := 4) rfl T29 O28 rfl rfl (by omega)) ?_
      refine hl_i0 rfl rfl (e_stn 2 rfl O28.2 rfl rfl rfl rfl (by omega)) ?_; intro _
      refine hl_nil ?_
      refine hq_in (hq_then ?_)
      refine hc_region ?_
      refine hl_y rfl rfl rfl (y_addn (q := 1) rfl rfl rfl (by omega)) ?_
      refine hl_y rfl rfl rfl (y_move rfl rfl) ?_
      refine hl_nil ?_
      exact hq_round (k + 1) (by omega) (by omega) ⟨rfl, rfl, rfl, rfl, lk_int rfl (by omega), trivial⟩ (fun _ h => Mm.set h 2 rfl (ns_ext fun i hi => blk_step hi))
    · replace c1 := of_decide_eq_false c1
      refine hc_exit ?_
      refine hq_then_exit (hq_loop_exit (hq_in_same (hq_then ?_)))
      refine hc_seq ?_
      refine hc_seq ?_
      refine hc_region ?_
      refine hl_y rfl rfl rfl (y_move (v := vi 0) rfl rfl) ?_
      refine hl_nil ?_
      refine hq_then ?_
      refine hc_block ?_
      refine hc_loop (fun k => k ≤ 8) (fun k => 8 - k) (fun k => [(2, .pointer (some ⟨g2, 0, none⟩)), (4, .pointer (some ⟨g4, 0, none⟩)), (5, .pointer (some ⟨g5, 0, none⟩)), (90, vi k)]) (fun k => Mm w [.blk g5 29 (ns vw 8 hf), .blk g4 29 (ns vw 8 (fun _ => 0)), .blk g2 29 (ns vw 8 (fun i => if i < k then cmpS hf l i else blkS l hf 64 i))]) (0) (by omega) ⟨rfl, rfl, rfl, lk_int rfl (by omega), trivial⟩ (fun _ h => Mm.set h 2 rfl (by rw [show k = 64 from by omega]; exact ns_zero.symm)) ?_
      intro k hk
      refine hc_seq ?_
      refine hc_region ?_
      refine hl_y rfl rfl rfl (y_lssn (q := 8) rfl rfl rfl ) ?_
      refine hl_nil ?_
      refine hq_then ?_
      refine hc_seq ?_
      refine hc_if rfl (fun c2 => ?_) (fun c2 => ?_)
      · replace c2 := of_decide_eq_true c2
        refine hc_skip ?_
        refine hq_then ?_
        refine hc_seq ?_
        refine hc_block ?_
        refine hc_seq ?_
        refine hc_region ?_
        refine hl_y rfl rfl rfl (y_move rfl rfl) ?_
        refine hl_y rfl rfl rfl (y_assign rfl rfl) ?_
        refine hl_nil ?_
        refine hq_then ?_
        refine hc_drawP [0] follows_mixed ?_
        refine hh_y 0 rfl rfl rfl rfl (by kernel_rfl) (by kernel_rfl) (by kernel_rfl) (fun _ h => Mm.pick h [0] (by decide)) (y_move rfl rfl) ?_
        refine hh_y 1 rfl rfl rfl rfl (by kernel_rfl) (by kernel_rfl) (by kernel_rfl) (fun _ h => Mm.pick h [0] (by decide)) (y_ixa1 rfl T29 O28 rfl rfl (by omega)) ?_
        refine hh_y 3 rfl rfl rfl rfl (by kernel_rfl) (by kernel_rfl) (by kernel_rfl) (fun _ h => Mm.pick h [0] (by decide)) (y_move rfl rfl) ?_
        refine hh_y 4 rfl rfl rfl rfl (by kernel_rfl) (by kernel_rfl) (by kernel_rfl) (fun _ h => Mm.pick h [0] (by decide)) (y_ixa1 rfl T29 O28 rfl rfl (by omega)) ?_
        refine hh_y 5 rfl rfl rfl rfl (by kernel_rfl) (by kernel_rfl) (by kernel_rfl) (fun _ h => Mm.pick h [0] (by decide)) (y_ldn 0 rfl O28 rfl rfl (by omega)) ?_
        refine hh_i 2 rfl rfl rfl rfl (by kernel_rfl) (ef_y (y_ldn 2 rfl O28 rfl rfl (by omega))) (fun _ _ h => Mm.pick h [0] (by decide)) ?_; intro _
        refine hh_y 6 rfl rfl rfl rfl (by kernel_rfl) (by kernel_rfl) (by kernel_rfl) (fun _ h => Mm.pick h [0] (by decide)) (y_addw rfl rfl rfl) ?_
        refine hh_y 7 rfl rfl rfl rfl (by kernel_rfl) (by kernel_rfl) (by kernel_rfl) (fun _ h => Mm.pick h [0] (by decide)) (y_ixa1 rfl T29 O28 rfl rfl (by omega)) ?_
        refine hh_i0 8 rfl rfl rfl (by kernel_rfl) (e_stn 2 rfl O28.2 rfl rfl rfl rfl (by omega)) (fun _ _ h => Mm.pick_set h [0] (by decide) (by decide)) ?_; intro _
        refine hh_done (by kernel_rfl) ?_
        refine hq_in (hq_then ?_)
        refine hc_region ?_
        refine hl_y rfl rfl rfl (y_addn (q := 1) rfl rfl rfl (by omega)) ?_
        refine hl_y rfl rfl rfl (y_move rfl rfl) ?_
        refine hl_nil ?_
        exact hq_round (k + 1) (by omega) (by omega) ⟨rfl, rfl, rfl, lk_int rfl (by omega), trivial⟩ (fun _ h => Mm.set h 2 rfl (ns_step (f := cmpS hf l) (g := blkS l hf 64) (by simp only [Nat.lt_irrefl, if_false]; rfl)))
      · replace c2 := of_decide_eq_false c2
        refine hc_exit ?_
        refine hq_then_exit (hq_loop_exit (hq_in_same (hq_then ?_)))
        refine hc_seq ?_
        refine hc_region ?_
        refine hl_y rfl rfl rfl (y_ldw 2 rfl T29 rfl rfl) ?_
        refine hl_i0 rfl rfl (e_stw 1 rfl T29.2 rfl rfl rfl (ns_onew _ _)) ?_; intro _
        refine hl_nil ?_
        refine hq_then ?_
        refine hc_ret ?_
        exact hq_ret1 (()) rfl (rv_arr 1 rfl T29 rfl (ns_len _ _).symm) (by rw [ns_full (by omega), blockF, if_pos c0]) (fun _ h => Mm.pick h [] (by simp))

end Go.Proofs.YtcdidapkpfnphaaDoor
