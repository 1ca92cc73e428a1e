/- The functions of the field of 256 numbers: what each call gives back. -/
import Derived.Test.YtcdidapkpfnphaaDoorTypes
import Derived.Test.YtcdidapkpfnphaaDoorSpec
namespace Go.Proofs.YtcdidapkpfnphaaDoor
open Go.RowKit
set_option maxRecDepth 100000
theorem gf_Twice_ct (a : UInt8) (w : World) : Ct0 Tryd.prog 127 #[vb a] w (vb (twice a)) := by
  refine ct0_of Tryd.func127 rfl Tryd.ntmps127 rfl ?_
  refine hc_seq ?_
  refine hc_region ?_
  refine hl_y rfl rfl rfl (y_assign (v := vb 0) rfl rfl) ?_
  refine hl_nil ?_
  refine hq_then ?_
  refine hc_seq ?_
  refine hc_seq ?_
  refine hc_region ?_
  refine hl_y rfl rfl rfl (y_move rfl rfl) ?_
  refine hl_y rfl rfl rfl (y_andb (q := 128) rfl rfl rfl) ?_
  refine hl_y rfl rfl rfl (y_neqb (q := 0) rfl rfl rfl) ?_
  refine hl_nil ?_
  refine hq_then ?_
  refine hc_if rfl (fun c0 => ?_) (fun c0 => ?_)
  · replace c0 := of_decide_eq_true c0
    refine hc_seq ?_
    refine hc_region ?_
    refine hl_y rfl rfl rfl (y_move rfl rfl) ?_
    refine hl_y rfl rfl rfl (y_shlb (m := 1) rfl rfl rfl rfl (by omega)) ?_
    refine hl_y rfl rfl rfl (y_xorb (q := 27) rfl rfl rfl) ?_
    refine hl_y rfl rfl rfl (y_assign rfl rfl) ?_
    refine hl_nil ?_
    refine hq_then ?_
    refine hc_ret ?_
    exact hq_then_ret (hq_ret1 (()) rfl (rv_tmp rfl) (by simp only [twice, if_pos c0]; rfl) (fun _ h => Mm.pick h [] (by simp)))
  · replace c0 := of_decide_eq_false c0
    refine hc_skip ?_
    refine hq_then ?_
    refine hc_seq ?_
    refine hc_region ?_
    refine hl_y rfl rfl rfl (y_move rfl rfl) ?_
    refine hl_y rfl rfl rfl (y_shlb (m := 1) rfl rfl rfl rfl (by omega)) ?_
    refine hl_y rfl rfl rfl (y_assign rfl rfl) ?_
    refine hl_nil ?_
    refine hq_then ?_
    refine hc_ret ?_
    exact hq_ret1 (()) rfl (rv_tmp rfl) (by simp only [twice, if_neg c0]; rfl) (fun _ h => Mm.pick h [] (by simp))

theorem r10_Twice_ct (a : UInt8) (w : World) : Ct0 Tryd.prog 124 #[vb a] w (vb (twiceR a)) := by
  refine ct0_of Tryd.func124 rfl Tryd.ntmps124 rfl ?_
  refine hc_seq ?_
  refine hc_region ?_
  refine hl_y rfl rfl rfl (y_assign (v := vb 0) rfl rfl) ?_
  refine hl_nil ?_
  refine hq_then ?_
  refine hc_seq ?_
  refine hc_seq ?_
  refine hc_region ?_
  refine hl_y rfl rfl rfl (y_move rfl rfl) ?_
  refine hl_y rfl rfl rfl (y_geqb (q := 128) rfl rfl rfl) ?_
  refine hl_nil ?_
  refine hq_then ?_
  refine hc_if rfl (fun c0 => ?_) (fun c0 => ?_)
  · replace c0 := of_decide_eq_true c0
    refine hc_seq ?_
    refine hc_region ?_
    refine hl_y rfl rfl rfl (y_move rfl rfl) ?_
    refine hl_y rfl rfl rfl (y_mulb (q := 2) rfl rfl rfl) ?_
    refine hl_y rfl rfl rfl (y_xorb (q := 27) rfl rfl rfl) ?_
    refine hl_y rfl rfl rfl (y_assign rfl rfl) ?_
    refine hl_nil ?_
    refine hq_then ?_
    refine hc_ret ?_
    exact hq_then_ret (hq_ret1 (()) rfl (rv_tmp rfl) (by rw [twiceR, if_pos c0]) (fun _ h => Mm.pick h [] (by simp)))
  · replace c0 := of_decide_eq_false c0
    refine hc_skip ?_
    refine hq_then ?_
    refine hc_seq ?_
    refine hc_region ?_
    refine hl_y rfl rfl rfl (y_move rfl rfl) ?_
    refine hl_y rfl rfl rfl (y_mulb (q := 2) rfl rfl rfl) ?_
    refine hl_y rfl rfl rfl (y_assign rfl rfl) ?_
    refine hl_nil ?_
    refine hq_then ?_
    refine hc_ret ?_
    exact hq_ret1 (()) rfl (rv_tmp rfl) (by rw [twiceR, if_neg c0]) (fun _ h => Mm.pick h [] (by simp))

theorem r10_Mul_ct (a b : UInt8) (w : World) : Ct0 Tryd.prog 123 #[vb a, vb b] w (vb (mulR a b)) := by
  refine ct0_of Tryd.func123 rfl Tryd.ntmps123 rfl ?_
  refine hc_seq ?_
  refine hc_region ?_
  refine hl_y rfl rfl rfl (y_assign (v := vb 0) rfl rfl) ?_
  refine hl_nil ?_
  refine hq_then ?_
  refine hc_seq ?_
  refine hc_region ?_
  refine hl_y rfl rfl rfl (y_assign (v := vb 0) rfl rfl) ?_
  refine hl_nil ?_
  refine hq_then ?_
  refine hc_seq ?_
  refine hc_seq ?_
  refine hc_region ?_
  refine hl_y rfl rfl rfl (y_assign (v := vi 0) rfl rfl) ?_
  refine hl_nil ?_
  refine hq_then ?_
  refine hc_block ?_
  refine hc_loop (fun k => k ≤ 8) (fun k => 8 - k) (fun k => [(0, vb (mulSt a b k).1), (1, vb (mulSt a b k).2.1), (5, vb (mulSt a b k).2.2), (6, vi k)]) (fun k => Mm w []) (0) (by omega) ⟨rfl, rfl, rfl, lk_int rfl (by omega), trivial⟩ (fun _ h => h) ?_
  intro k hk
  refine hc_seq ?_
  refine hc_seq ?_
  refine hc_region ?_
  refine hl_y rfl rfl rfl (y_move rfl rfl) ?_
  refine hl_y rfl rfl rfl (y_lssn (q := 8) rfl rfl rfl ) ?_
  refine hl_nil ?_
  refine hq_then ?_
  refine hc_if rfl (fun c0 => ?_) (fun c0 => ?_)
  · replace c0 := of_decide_eq_true c0
    refine hc_skip ?_
    refine hq_then ?_
    refine hc_seq ?_
    refine hc_block ?_
    refine hc_seq ?_
    refine hc_seq ?_
    refine hc_region ?_
    refine hl_y rfl rfl rfl (y_move rfl rfl) ?_
    refine hl_y rfl rfl rfl (y_remb (q := 2) rfl rfl rfl (by decide)) ?_
    refine hl_y rfl rfl rfl (y_eqlb (q := 1) rfl rfl rfl) ?_
    refine hl_nil ?_
    refine hq_then ?_
    refine hc_if rfl (fun c1 => ?_) (fun c1 => ?_)
    · replace c1 := of_decide_eq_true c1
      refine hc_region ?_
      refine hl_y rfl rfl rfl (y_move rfl rfl) ?_
      refine hl_y rfl rfl rfl (y_move rfl rfl) ?_
      refine hl_y rfl rfl rfl (y_xorb rfl rfl rfl) ?_
      refine hl_y rfl rfl rfl (y_assign rfl rfl) ?_
      refine hl_nil ?_
      refine hq_then ?_
      refine hc_seq ?_
      refine hc_region ?_
      refine hl_y rfl rfl rfl (y_move rfl rfl) ?_
      refine hl_y rfl rfl rfl (y_quob (q := 2) rfl rfl rfl (by decide)) ?_
      refine hl_y rfl rfl rfl (y_assign rfl rfl) ?_
      refine hl_nil ?_
      refine hq_then ?_
      refine hc_region ?_
      refine hl_y rfl rfl rfl (y_move rfl rfl) ?_
      refine hl_i rfl rfl rfl (e_call0 rfl F124 rfl (fun w hw => r10_Twice_ct _ w) rfl) ?_; intro _
      refine hl_y rfl rfl rfl (y_assign rfl rfl) ?_
      refine hl_nil ?_
      refine hq_in (hq_then ?_)
      refine hc_region ?_
      refine hl_y rfl rfl rfl (y_move rfl rfl) ?_
      refine hl_y rfl rfl rfl (y_addn (q := 1) rfl rfl rfl (by omega)) ?_
      refine hl_y rfl rfl rfl (y_assign rfl rfl) ?_
      refine hl_nil ?_
      exact hq_round (k + 1) (by omega) (by omega) ⟨rfl, rfl, lk_eq rfl (by first | exact congrArg vb (if_pos c1).symm | exact congrArg vb (if_neg c1).symm), lk_int rfl (by omega), trivial⟩ (fun _ h => h)
    · replace c1 := of_decide_eq_false c1
      refine hc_skip ?_
      refine hq_then ?_
      refine hc_seq ?_
      refine hc_region ?_
      refine hl_y rfl rfl rfl (y_move rfl rfl) ?_
      refine hl_y rfl rfl rfl (y_quob (q := 2) rfl rfl rfl (by decide)) ?_
      refine hl_y rfl rfl rfl (y_assign rfl rfl) ?_
      refine hl_nil ?_
      refine hq_then ?_
      refine hc_region ?_
      refine hl_y rfl rfl rfl (y_move rfl rfl) ?_
      refine hl_i rfl rfl rfl (e_call0 rfl F124 rfl (fun w hw => r10_Twice_ct _ w) rfl) ?_; intro _
      refine hl_y rfl rfl rfl (y_assign rfl rfl) ?_
      refine hl_nil ?_
      refine hq_in (hq_then ?_)
      refine hc_region ?_
      refine hl_y rfl rfl rfl (y_move rfl rfl) ?_
      refine hl_y rfl rfl rfl (y_addn (q := 1) rfl rfl rfl (by omega)) ?_
      refine hl_y rfl rfl rfl (y_assign rfl rfl) ?_
      refine hl_nil ?_
      exact hq_round (k + 1) (by omega) (by omega) ⟨rfl, rfl, lk_eq rfl (by first | exact congrArg vb (if_pos c1).symm | exact congrArg vb (if_neg c1).symm), lk_int rfl (by omega), trivial⟩ (fun _ h => h)
  · replace c0 := of_decide_eq_false c0
    refine hc_exit ?_
    refine hq_then_exit (hq_loop_exit (hq_in_same (hq_then ?_)))
    refine hc_seq ?_
    refine hc_region ?_
    refine hl_y rfl rfl rfl (y_move rfl rfl) ?_
    refine hl_y rfl rfl rfl (y_assign rfl rfl) ?_
    refine hl_nil ?_
    refine hq_then ?_
    refine hc_ret ?_
    exact hq_ret1 (()) rfl (rv_tmp rfl) (by rw [mulR, show k = 8 from by omega]) (fun _ h => Mm.pick h [] (by simp))

theorem r10_Power_ct (a : UInt8) (n m : Nat) (hn : n ≤ 9223372036854775807) (hm : m = redN n) (w : World) : Ct0 Tryd.prog 117 #[vb a, vi n] w (vb (powN a m)) := by
  have hm2 := redN_le n
  refine ct0_of Tryd.func117 rfl Tryd.ntmps117 rfl ?_
  refine hc_seq ?_
  refine hc_region ?_
  refine hl_y rfl rfl rfl (y_assign (v := vb 0) rfl rfl) ?_
  refine hl_nil ?_
  refine hq_then ?_
  refine hc_seq ?_
  refine hc_seq ?_
  refine hc_region ?_
  refine hl_y rfl rfl rfl (y_move rfl rfl) ?_
  refine hl_y rfl rfl rfl (y_gtrn (q := 255) rfl rfl rfl ) ?_
  refine hl_nil ?_
  refine hq_then ?_
  refine hc_if rfl (fun c0 => ?_) (fun c0 => ?_)
  · replace c0 := of_decide_eq_true c0
    refine hc_region ?_
    refine hl_y rfl rfl rfl (y_move rfl rfl) ?_
    refine hl_y rfl rfl rfl (y_subn (q := 1) rfl rfl rfl (by omega) (by omega)) ?_
    refine hl_y rfl rfl rfl (y_remn (q := 255) rfl rfl rfl (by omega)) ?_
    refine hl_y rfl rfl rfl (y_addn (q := 1) rfl rfl rfl (by omega)) ?_
    refine hl_y rfl rfl rfl (y_assign rfl rfl) ?_
    refine HL.sl (s' := [(0, vb a), (1, vi m)]) ⟨rfl, lk_eq rfl (by rw [hm, redN, if_pos c0]), trivial⟩ ?_
    refine hl_nil ?_
    refine hq_then ?_
    refine hc_seq ?_
    refine hc_region ?_
    refine hl_y rfl rfl rfl (y_assign (v := vb 1) rfl rfl) ?_
    refine hl_nil ?_
    refine hq_then ?_
    refine hc_seq ?_
    refine hc_seq ?_
    refine hc_region ?_
    refine hl_y rfl rfl rfl (y_assign (v := vi 0) rfl rfl) ?_
    refine hl_nil ?_
    refine hq_then ?_
    refine hc_block ?_
    refine hc_loop (fun k => k ≤ m) (fun k => m - k) (fun k => [(0, vb a), (1, vi m), (5, vb (powN a k)), (6, vi k)]) (fun k => Mm w []) (0) (by omega) ⟨rfl, rfl, rfl, lk_int rfl (by omega), trivial⟩ (fun _ h => h) ?_
    intro k hk
    refine hc_seq ?_
    refine hc_seq ?_
    refine hc_region ?_
    refine hl_y rfl rfl rfl (y_move rfl rfl) ?_
    refine hl_y rfl rfl rfl (y_move rfl rfl) ?_
    refine hl_y rfl rfl rfl (y_lssn rfl rfl rfl ) ?_
    refine hl_nil ?_
    refine hq_then ?_
    refine hc_if rfl (fun c1 => ?_) (fun c1 => ?_)
    · replace c1 := of_decide_eq_true c1
      refine hc_skip ?_
      refine hq_then ?_
      refine hc_seq ?_
      refine hc_block ?_
      refine hc_region ?_
      refine hl_y rfl rfl rfl (y_move rfl rfl) ?_
      refine hl_y rfl rfl rfl (y_move rfl rfl) ?_
      refine hl_i rfl rfl rfl (e_call0 rfl F123 rfl (fun w hw => r10_Mul_ct _ _ w) rfl) ?_; intro _
      refine hl_y rfl rfl rfl (y_assign rfl rfl) ?_
      refine hl_nil ?_
      refine hq_in (hq_then ?_)
      refine hc_region ?_
      refine hl_y rfl rfl rfl (y_move rfl rfl) ?_
      refine hl_y rfl rfl rfl (y_addn (q := 1) rfl rfl rfl (by omega)) ?_
      refine hl_y rfl rfl rfl (y_assign rfl rfl) ?_
      refine hl_nil ?_
      exact hq_round (k + 1) (by omega) (by omega) ⟨rfl, rfl, rfl, lk_int rfl (by omega), trivial⟩ (fun _ h => h)
    · replace c1 := of_decide_eq_false c1
      refine hc_exit ?_
      refine hq_then_exit (hq_loop_exit (hq_in_same (hq_then ?_)))
      refine hc_seq ?_
      refine hc_region ?_
      refine hl_y rfl rfl rfl (y_move rfl rfl) ?_
      refine hl_y rfl rfl rfl (y_assign rfl rfl) ?_
      refine hl_nil ?_
      refine hq_then ?_
      refine hc_ret ?_
      exact hq_ret1 (()) rfl (rv_tmp rfl) (by rw [show k = m from by omega]) (fun _ h => Mm.pick h [] (by simp))
  · replace c0 := of_decide_eq_false c0
    refine HC.sl (s' := [(0, vb a), (1, vi m)]) ⟨rfl, lk_eq rfl (by rw [hm, redN, if_neg c0]), trivial⟩ ?_
    refine hc_skip ?_
    refine hq_then ?_
    refine hc_seq ?_
    refine hc_region ?_
    refine hl_y rfl rfl rfl (y_assign (v := vb 1) rfl rfl) ?_
    refine hl_nil ?_
    refine hq_then ?_
    refine hc_seq ?_
    refine hc_seq ?_
    refine hc_region ?_
    refine hl_y rfl rfl rfl (y_assign (v := vi 0) rfl rfl) ?_
    refine hl_nil ?_
    refine hq_then ?_
    refine hc_block ?_
    refine hc_loop (fun k => k ≤ m) (fun k => m - k) (fun k => [(0, vb a), (1, vi m), (5, vb (powN a k)), (6, vi k)]) (fun k => Mm w []) (0) (by omega) ⟨rfl, rfl, rfl, lk_int rfl (by omega), trivial⟩ (fun _ h => h) ?_
    intro k hk
    refine hc_seq ?_
    refine hc_seq ?_
    refine hc_region ?_
    refine hl_y rfl rfl rfl (y_move rfl rfl) ?_
    refine hl_y rfl rfl rfl (y_move rfl rfl) ?_
    refine hl_y rfl rfl rfl (y_lssn rfl rfl rfl ) ?_
    refine hl_nil ?_
    refine hq_then ?_
    refine hc_if rfl (fun c2 => ?_) (fun c2 => ?_)
    · replace c2 := of_decide_eq_true c2
      refine hc_skip ?_
      refine hq_then ?_
      refine hc_seq ?_
      refine hc_block ?_
      refine hc_region ?_
      refine hl_y rfl rfl rfl (y_move rfl rfl) ?_
      refine hl_y rfl rfl rfl (y_move rfl rfl) ?_
      refine hl_i rfl rfl rfl (e_call0 rfl F123 rfl (fun w hw => r10_Mul_ct _ _ w) rfl) ?_; intro _
      refine hl_y rfl rfl rfl (y_assign rfl rfl) ?_
      refine hl_nil ?_
      refine hq_in (hq_then ?_)
      refine hc_region ?_
      refine hl_y rfl rfl rfl (y_move rfl rfl) ?_
      refine hl_y rfl rfl rfl (y_addn (q := 1) rfl rfl rfl (by omega)) ?_
      refine hl_y rfl rfl rfl (y_assign rfl rfl) ?_
      refine hl_nil ?_
      exact hq_round (k + 1) (by omega) (by omega) ⟨rfl, rfl, rfl, lk_int rfl (by omega), trivial⟩ (fun _ h => h)
    · replace c2 := of_decide_eq_false c2
      refine hc_exit ?_
      refine hq_then_exit (hq_loop_exit (hq_in_same (hq_then ?_)))
      refine hc_seq ?_
      refine hc_region ?_
      refine hl_y rfl rfl rfl (y_move rfl rfl) ?_
      refine hl_y rfl rfl rfl (y_assign rfl rfl) ?_
      refine hl_nil ?_
      refine hq_then ?_
      refine hc_ret ?_
      exact hq_ret1 (()) rfl (rv_tmp rfl) (by rw [show k = m from by omega]) (fun _ h => Mm.pick h [] (by simp))

theorem r10_Power_neg_ct (a : UInt8) (n : Int) (hn : n < 1) (h0 : -9223372036854775808 ≤ n) (w : World) : Ct0 Tryd.prog 117 #[vb a, .int .i64 n] w (vb 1) := by
  refine ct0_of Tryd.func117 rfl Tryd.ntmps117 rfl ?_
  refine hc_seq ?_
  refine hc_region ?_
  refine hl_y rfl rfl rfl (y_assign (v := vb 0) rfl rfl) ?_
  refine hl_nil ?_
  refine hq_then ?_
  refine hc_seq ?_
  refine hc_seq ?_
  refine hc_region ?_
  refine hl_y rfl rfl rfl (y_move rfl rfl) ?_
  refine hl_y rfl rfl rfl (y_gtri (q := 255) rfl rfl rfl ) ?_
  refine hl_nil ?_
  refine hq_then ?_
  refine hc_if rfl (fun c0 => ?_) (fun c0 => ?_)
  · replace c0 := of_decide_eq_true c0
    exfalso; omega
  · replace c0 := of_decide_eq_false c0
    refine hc_skip ?_
    refine hq_then ?_
    refine hc_seq ?_
    refine hc_region ?_
    refine hl_y rfl rfl rfl (y_assign (v := vb 1) rfl rfl) ?_
    refine hl_nil ?_
    refine hq_then ?_
    refine hc_seq ?_
    refine hc_seq ?_
    refine hc_region ?_
    refine hl_y rfl rfl rfl (y_assign (v := vi 0) rfl rfl) ?_
    refine hl_nil ?_
    refine hq_then ?_
    refine hc_block ?_
    refine hc_loop (fun k => k ≤ 0) (fun k => 0) (fun k => [(0, vb a), (1, .int .i64 n), (5, vb 1), (6, vi 0)]) (fun k => Mm w []) (0) (by omega) ⟨rfl, rfl, rfl, lk_int rfl (by omega), trivial⟩ (fun _ h => h) ?_
    intro k hk
    refine hc_seq ?_
    refine hc_seq ?_
    refine hc_region ?_
    refine hl_y rfl rfl rfl (y_move rfl rfl) ?_
    refine hl_y rfl rfl rfl (y_move rfl rfl) ?_
    refine hl_y rfl rfl rfl (y_lssi rfl rfl rfl ) ?_
    refine hl_nil ?_
    refine hq_then ?_
    refine hc_if rfl (fun c1 => ?_) (fun c1 => ?_)
    · replace c1 := of_decide_eq_true c1
      exfalso; omega
    · replace c1 := of_decide_eq_false c1
      refine hc_exit ?_
      refine hq_then_exit (hq_loop_exit (hq_in_same (hq_then ?_)))
      refine hc_seq ?_
      refine hc_region ?_
      refine hl_y rfl rfl rfl (y_move rfl rfl) ?_
      refine hl_y rfl rfl rfl (y_assign rfl rfl) ?_
      refine hl_nil ?_
      refine hq_then ?_
      refine hc_ret ?_
      exact hq_ret1 (()) rfl (rv_tmp rfl) rfl (fun _ h => Mm.pick h [] (by simp))

theorem r10_left_ct (a : UInt8) (n : Nat) (hn : n < 8) (h0 : 0 < n) (w : World) : Ct0 Tryd.prog 122 #[vb a, vi n] w (vb (leftR a n)) := by
  refine ct0_of Tryd.func122 rfl Tryd.ntmps122 rfl ?_
  refine hc_seq ?_
  refine hc_region ?_
  refine hl_y rfl rfl rfl (y_assign (v := vb 0) rfl rfl) ?_
  refine hl_nil ?_
  refine hq_then ?_
  refine hc_seq ?_
  refine hc_drawP [] follows_mixed ?_
  refine hh_y 0 rfl rfl rfl rfl (by kernel_rfl) (by kernel_rfl) (by kernel_rfl) (fun _ h => Mm.pick h [] (by decide)) (y_move rfl rfl) ?_
  refine hh_y 1 rfl rfl rfl rfl (by kernel_rfl) (by kernel_rfl) (by kernel_rfl) (fun _ h => Mm.pick h [] (by decide)) (y_move rfl rfl) ?_
  refine hh_y 2 rfl rfl rfl rfl (by kernel_rfl) (by kernel_rfl) (by kernel_rfl) (fun _ h => Mm.pick h [] (by decide)) (y_shlb (m := n) rfl rfl rfl rfl (by omega)) ?_
  refine hh_y 3 rfl rfl rfl rfl (by kernel_rfl) (by kernel_rfl) (by kernel_rfl) (fun _ h => Mm.pick h [] (by decide)) (y_move rfl rfl) ?_
  refine hh_y 4 rfl rfl rfl rfl (by kernel_rfl) (by kernel_rfl) (by kernel_rfl) (fun _ h => Mm.pick h [] (by decide)) (y_move rfl rfl) ?_
  refine hh_y 5 rfl rfl rfl rfl (by kernel_rfl) (by kernel_rfl) (by kernel_rfl) (fun _ h => Mm.pick h [] (by decide)) (y_subn (p := 8) rfl rfl rfl (by omega) (by omega)) ?_
  refine hh_y 6 rfl rfl rfl rfl (by kernel_rfl) (by kernel_rfl) (by kernel_rfl) (fun _ h => Mm.pick h [] (by decide)) (y_shrb (m := (8 - n)) rfl rfl rfl rfl (by omega)) ?_
  refine hh_y 7 rfl rfl rfl rfl (by kernel_rfl) (by kernel_rfl) (by kernel_rfl) (fun _ h => Mm.pick h [] (by decide)) (y_orb rfl rfl rfl) ?_
  refine hh_y 8 rfl rfl rfl rfl (by kernel_rfl) (by kernel_rfl) (by kernel_rfl) (fun _ h => Mm.pick h [] (by decide)) (y_assign rfl rfl) ?_
  refine hh_done (by kernel_rfl) ?_
  refine hq_then ?_
  refine hc_ret ?_
  exact hq_ret1 (()) rfl (rv_tmp rfl) rfl (fun _ h => Mm.pick h [] (by simp))

theorem r10_Inverse_ct (a : UInt8) (w : World) : Ct0 Tryd.prog 121 #[vb a] w (vb (invR a)) := by
  refine ct0_of Tryd.func121 rfl Tryd.ntmps121 rfl ?_
  refine hc_seq ?_
  refine hc_region ?_
  refine hl_y rfl rfl rfl (y_assign (v := vb 0) rfl rfl) ?_
  refine hl_nil ?_
  refine hq_then ?_
  refine hc_seq ?_
  refine hc_seq ?_
  refine hc_region ?_
  refine hl_y rfl rfl rfl (y_assign (v := vi 0) rfl rfl) ?_
  refine hl_nil ?_
  refine hq_then ?_
  refine hc_block ?_
  refine hc_loop (fun k => k ≤ 256 ∧ ∀ j, j < k → mulR a (UInt8.ofNat j) ≠ 1) (fun k => 256 - k) (fun k => [(0, vb a), (3, vi k)]) (fun k => Mm w []) (0) ⟨by omega, fun j hj => by omega⟩ ⟨rfl, lk_int rfl (by omega), trivial⟩ (fun _ h => h) ?_
  intro k hk
  obtain ⟨hk, hj⟩ := hk
  refine hc_seq ?_
  refine hc_seq ?_
  refine hc_region ?_
  refine hl_y rfl rfl rfl (y_move rfl rfl) ?_
  refine hl_y rfl rfl rfl (y_lssn (q := 256) rfl rfl rfl ) ?_
  refine hl_nil ?_
  refine hq_then ?_
  refine hc_if rfl (fun c0 => ?_) (fun c0 => ?_)
  · replace c0 := of_decide_eq_true c0
    refine hc_skip ?_
    refine hq_then ?_
    refine hc_seq ?_
    refine hc_block ?_
    refine hc_seq ?_
    refine hc_region ?_
    refine hl_y rfl rfl rfl (y_move rfl rfl) ?_
    refine hl_y rfl rfl rfl (y_move rfl rfl) ?_
    refine hl_y rfl rfl rfl (y_conv rfl U3 U5 rfl (wrap_nb _)) ?_
    refine hl_i rfl rfl rfl (e_call0 rfl F123 rfl (fun w hw => r10_Mul_ct _ _ w) rfl) ?_; intro _
    refine hl_y rfl rfl rfl (y_eqlb (q := 1) rfl rfl rfl) ?_
    refine hl_nil ?_
    refine hq_then ?_
    refine hc_if rfl (fun c1 => ?_) (fun c1 => ?_)
    · replace c1 := of_decide_eq_true c1
      refine hc_seq ?_
      refine hc_region ?_
      refine hl_y rfl rfl rfl (y_move rfl rfl) ?_
      refine hl_y rfl rfl rfl (y_conv rfl U3 U5 rfl (wrap_nb _)) ?_
      refine hl_y rfl rfl rfl (y_assign rfl rfl) ?_
      refine hl_nil ?_
      refine hq_then ?_
      refine hc_ret ?_
      exact hq_in_ret (hq_then_ret (hq_loop_ret (hq_in_ret (hq_then_ret (hq_ret1 (()) rfl (rv_tmp rfl) (by rw [invR_of (by omega) hj c1]) (fun _ h => Mm.pick h [] (by simp)))))))
    · replace c1 := of_decide_eq_false c1
      refine hc_skip ?_
      refine hq_in (hq_then ?_)
      refine hc_region ?_
      refine hl_y rfl rfl rfl (y_move rfl rfl) ?_
      refine hl_y rfl rfl rfl (y_addn (q := 1) rfl rfl rfl (by omega)) ?_
      refine hl_y rfl rfl rfl (y_assign rfl rfl) ?_
      refine hl_nil ?_
      exact hq_round (k + 1) (by omega) ⟨by omega, fun j hj2 => by rcases Nat.lt_or_ge j k with h | h; exact hj j h; exact (show j = k from by omega) ▸ c1⟩ ⟨rfl, lk_int rfl (by omega), trivial⟩ (fun _ h => h)
  · replace c0 := of_decide_eq_false c0
    refine hc_exit ?_
    refine hq_then_exit (hq_loop_exit (hq_in_same (hq_then ?_)))
    refine hc_seq ?_
    refine hc_region ?_
    refine hl_y rfl rfl rfl (y_assign (v := vb 0) rfl rfl) ?_
    refine hl_nil ?_
    refine hq_then ?_
    refine hc_ret ?_
    exact hq_ret1 (()) rfl (rv_tmp rfl) (by rw [invR_none (fun j h => hj j (by omega))]) (fun _ h => Mm.pick h [] (by simp))

theorem r10_Box_ct (a : UInt8) (w : World) : Ct0 Tryd.prog 116 #[vb a] w (vb (boxR a)) := by
  refine ct0_of Tryd.func116 rfl Tryd.ntmps116 rfl ?_
  refine hc_seq ?_
  refine hc_region ?_
  refine hl_y rfl rfl rfl (y_assign (v := vb 0) rfl rfl) ?_
  refine hl_nil ?_
  refine hq_then ?_
  refine hc_seq ?_
  refine hc_region ?_
  refine hl_y rfl rfl rfl (y_move rfl rfl) ?_
  refine hl_i rfl rfl rfl (e_call0 rfl F121 rfl (fun w hw => r10_Inverse_ct _ w) rfl) ?_; intro _
  refine hl_y rfl rfl rfl (y_assign rfl rfl) ?_
  refine hl_nil ?_
  refine hq_then ?_
  refine hc_seq ?_
  refine hc_region ?_
  refine hl_y rfl rfl rfl (y_move rfl rfl) ?_
  refine hl_y rfl rfl rfl (y_move rfl rfl) ?_
  refine hl_i rfl rfl rfl (e_call0 rfl F122 rfl (fun w hw => r10_left_ct _ 1 (by omega) (by omega) w) rfl) ?_; intro _
  refine hl_y rfl rfl rfl (y_xorb rfl rfl rfl) ?_
  refine hl_y rfl rfl rfl (y_move rfl rfl) ?_
  refine hl_i rfl rfl rfl (e_call0 rfl F122 rfl (fun w hw => r10_left_ct _ 2 (by omega) (by omega) w) rfl) ?_; intro _
  refine hl_y rfl rfl rfl (y_xorb rfl rfl rfl) ?_
  refine hl_y rfl rfl rfl (y_move rfl rfl) ?_
  refine hl_i rfl rfl rfl (e_call0 rfl F122 rfl (fun w hw => r10_left_ct _ 3 (by omega) (by omega) w) rfl) ?_; intro _
  refine hl_y rfl rfl rfl (y_xorb rfl rfl rfl) ?_
  refine hl_y rfl rfl rfl (y_move rfl rfl) ?_
  refine hl_i rfl rfl rfl (e_call0 rfl F122 rfl (fun w hw => r10_left_ct _ 4 (by omega) (by omega) w) rfl) ?_; intro _
  refine hl_y rfl rfl rfl (y_xorb rfl rfl rfl) ?_
  refine hl_y rfl rfl rfl (y_xorb (q := 99) rfl rfl rfl) ?_
  refine hl_y rfl rfl rfl (y_assign rfl rfl) ?_
  refine hl_nil ?_
  refine hq_then ?_
  refine hc_ret ?_
  exact hq_ret1 (()) rfl (rv_tmp rfl) rfl (fun _ h => Mm.pick h [] (by simp))

theorem r10_Column_ct (f : Nat → UInt8) (w : World) : Ct0 Tryd.prog 118 #[.agg (ns vb 4 f).toArray] w (.agg (ns vb 4 (colR f)).toArray) := by
  refine ct0_of Tryd.func118 rfl Tryd.ntmps118 rfl ?_
  refine hc_seq ?_
  refine hc_region ?_
  refine hl_i rfl rfl rfl (e_boxa rfl rfl) ?_; intro g1
  refine hl_i rfl rfl rfl (e_alloc rfl Z99) ?_; intro g2
  refine hl_nil ?_
  refine hq_then ?_
  refine hc_seq ?_
  refine hc_region ?_
  refine hl_i rfl rfl rfl (e_alloc rfl Z99) ?_; intro g3
  refine hl_nil ?_
  refine hq_then ?_
  refine hc_seq ?_
  refine hc_seq ?_
  refine hc_region ?_
  refine hl_y rfl rfl rfl (y_assign (v := vi 0) rfl rfl) ?_
  refine hl_nil ?_
  refine hq_then ?_
  refine hc_block ?_
  refine hc_loop (fun k => k ≤ 4) (fun k => 4 - k) (fun k => [(1, .pointer (some ⟨g1, 0, none⟩)), (2, .pointer (some ⟨g2, 0, none⟩)), (3, .pointer (some ⟨g3, 0, none⟩)), (4, vi k)]) (fun k => Mm w [.blk g3 99 (ns vb 4 (fun i => if i < k then colR f i else 0)), .blk g2 99 (ns vb 4 (fun _ => 0)), .blk g1 99 (ns vb 4 f)]) (0) (by omega) ⟨rfl, rfl, rfl, lk_int rfl (by omega), trivial⟩ (fun _ h => Mm.mm h (by simp)) ?_
  intro k hk
  refine hc_seq ?_
  refine hc_seq ?_
  refine hc_region ?_
  refine hl_y rfl rfl rfl (y_move rfl rfl) ?_
  refine hl_y rfl rfl rfl (y_lssn (q := 4) rfl rfl rfl ) ?_
  refine hl_nil ?_
  refine hq_then ?_
  refine hc_if rfl (fun c0 => ?_) (fun c0 => ?_)
  · replace c0 := of_decide_eq_true c0
    refine hc_skip ?_
    refine hq_then ?_
    refine hc_seq ?_
    refine hc_block ?_
    refine hc_seq ?_
    refine hc_region ?_
    refine hl_y rfl rfl rfl (y_move rfl rfl) ?_
    refine hl_y rfl rfl rfl (y_addn (q := 1) rfl rfl rfl (by omega)) ?_
    refine hl_y rfl rfl rfl (y_remn (q := 4) rfl rfl rfl (by omega)) ?_
    refine hl_y rfl rfl rfl (y_ixa1 rfl T99 O5 rfl rfl (by omega)) ?_
    refine hl_y rfl rfl rfl (y_ldn 2 rfl O5 rfl rfl (by omega)) ?_
    refine hl_y rfl rfl rfl (y_assign rfl rfl) ?_
    refine hl_nil ?_
    refine hq_then ?_
    refine hc_drawP [2] follows_mixed ?_
    refine hh_y 0 rfl rfl rfl rfl (by kernel_rfl) (by kernel_rfl) (by kernel_rfl) (fun _ h => Mm.pick h [2] (by decide)) (y_move rfl rfl) ?_
    refine hh_y 1 rfl rfl rfl rfl (by kernel_rfl) (by kernel_rfl) (by kernel_rfl) (fun _ h => Mm.pick h [2] (by decide)) (y_move rfl rfl) ?_
    refine hh_y 2 rfl rfl rfl rfl (by kernel_rfl) (by kernel_rfl) (by kernel_rfl) (fun _ h => Mm.pick h [2] (by decide)) (y_ixa1 rfl T99 O5 rfl rfl (by omega)) ?_
    refine hh_y 3 rfl rfl rfl rfl (by kernel_rfl) (by kernel_rfl) (by kernel_rfl) (fun _ h => Mm.pick h [2] (by decide)) (y_ldn 0 rfl O5 rfl rfl (by omega)) ?_
    refine hh_y 5 rfl rfl rfl rfl (by kernel_rfl) (by kernel_rfl) (by kernel_rfl) (fun _ h => Mm.pick h [2] (by decide)) (y_move rfl rfl) ?_
    refine hh_y 7 rfl rfl rfl rfl (by kernel_rfl) (by kernel_rfl) (by kernel_rfl) (fun _ h => Mm.pick h [2] (by decide)) (y_move rfl rfl) ?_
    refine hh_y 10 rfl rfl rfl rfl (by kernel_rfl) (by kernel_rfl) (by kernel_rfl) (fun _ h => Mm.pick h [2] (by decide)) (y_move rfl rfl) ?_
    refine hh_y 11 rfl rfl rfl rfl (by kernel_rfl) (by kernel_rfl) (by kernel_rfl) (fun _ h => Mm.pick h [2] (by decide)) (y_addn (q := 2) rfl rfl rfl (by omega)) ?_
    refine hh_y 12 rfl rfl rfl rfl (by kernel_rfl) (by kernel_rfl) (by kernel_rfl) (fun _ h => Mm.pick h [2] (by decide)) (y_remn (q := 4) rfl rfl rfl (by omega)) ?_
    refine hh_y 13 rfl rfl rfl rfl (by kernel_rfl) (by kernel_rfl) (by kernel_rfl) (fun _ h => Mm.pick h [2] (by decide)) (y_ixa1 rfl T99 O5 rfl rfl (by omega)) ?_
    refine hh_y 14 rfl rfl rfl rfl (by kernel_rfl) (by kernel_rfl) (by kernel_rfl) (fun _ h => Mm.pick h [2] (by decide)) (y_ldn 0 rfl O5 rfl rfl (by omega)) ?_
    refine hh_y 16 rfl rfl rfl rfl (by kernel_rfl) (by kernel_rfl) (by kernel_rfl) (fun _ h => Mm.pick h [2] (by decide)) (y_move rfl rfl) ?_
    refine hh_y 17 rfl rfl rfl rfl (by kernel_rfl) (by kernel_rfl) (by kernel_rfl) (fun _ h => Mm.pick h [2] (by decide)) (y_addn (q := 3) rfl rfl rfl (by omega)) ?_
    refine hh_y 18 rfl rfl rfl rfl (by kernel_rfl) (by kernel_rfl) (by kernel_rfl) (fun _ h => Mm.pick h [2] (by decide)) (y_remn (q := 4) rfl rfl rfl (by omega)) ?_
    refine hh_y 19 rfl rfl rfl rfl (by kernel_rfl) (by kernel_rfl) (by kernel_rfl) (fun _ h => Mm.pick h [2] (by decide)) (y_ixa1 rfl T99 O5 rfl rfl (by omega)) ?_
    refine hh_y 20 rfl rfl rfl rfl (by kernel_rfl) (by kernel_rfl) (by kernel_rfl) (fun _ h => Mm.pick h [2] (by decide)) (y_ldn 0 rfl O5 rfl rfl (by omega)) ?_
    refine hh_i 4 rfl rfl rfl rfl (by kernel_rfl) (e_call0 rfl F124 rfl (fun w hw => r10_Twice_ct _ w) rfl) (fun _ _ h => Mm.pick h [2] (by decide)) ?_; intro _
    refine hh_y 6 rfl rfl rfl rfl (by kernel_rfl) (by kernel_rfl) (by kernel_rfl) (fun _ h => Mm.pick h [2] (by decide)) (y_xorb rfl rfl rfl) ?_
    refine hh_i 8 rfl rfl rfl rfl (by kernel_rfl) (e_call0 rfl F124 rfl (fun w hw => r10_Twice_ct _ w) rfl) (fun _ _ h => Mm.pick h [2] (by decide)) ?_; intro _
    refine hh_y 9 rfl rfl rfl rfl (by kernel_rfl) (by kernel_rfl) (by kernel_rfl) (fun _ h => Mm.pick h [2] (by decide)) (y_xorb rfl rfl rfl) ?_
    refine hh_y 15 rfl rfl rfl rfl (by kernel_rfl) (by kernel_rfl) (by kernel_rfl) (fun _ h => Mm.pick h [2] (by decide)) (y_xorb rfl rfl rfl) ?_
    refine hh_y 21 rfl rfl rfl rfl (by kernel_rfl) (by kernel_rfl) (by kernel_rfl) (fun _ h => Mm.pick h [2] (by decide)) (y_xorb rfl rfl rfl) ?_
    refine hh_y 22 rfl rfl rfl rfl (by kernel_rfl) (by kernel_rfl) (by kernel_rfl) (fun _ h => Mm.pick h [2] (by decide)) (y_ixa1 rfl T99 O5 rfl rfl (by omega)) ?_
    refine hh_i0 23 rfl rfl rfl (by kernel_rfl) (e_stn 0 rfl O5.2 rfl rfl rfl rfl (by omega)) (fun _ _ h => Mm.pick h [2] (by decide)) ?_; intro _
    refine hh_done (by kernel_rfl) ?_
    refine hq_in (hq_then ?_)
    refine hc_region ?_
    refine hl_y rfl rfl rfl (y_move rfl rfl) ?_
    refine hl_y rfl rfl rfl (y_addn (q := 1) rfl rfl rfl (by omega)) ?_
    refine hl_y rfl rfl rfl (y_assign rfl rfl) ?_
    refine hl_nil ?_
    exact hq_round (k + 1) (by omega) (by omega) ⟨rfl, rfl, rfl, lk_int rfl (by omega), trivial⟩ (fun _ h => Mm.set h 0 rfl (ns_step (f := colR f) (g := fun _ => 0) rfl))
  · replace c0 := of_decide_eq_false c0
    refine hc_exit ?_
    refine hq_then_exit (hq_loop_exit (hq_in_same (hq_then ?_)))
    refine hc_seq ?_
    refine hc_region ?_
    refine hl_y rfl rfl rfl (y_ldw 0 rfl T99 rfl rfl) ?_
    refine hl_i0 rfl rfl (e_stw 1 rfl T99.2 rfl rfl rfl (ns_oneb _ _)) ?_; intro _
    refine hl_nil ?_
    refine hq_then ?_
    refine hc_ret ?_
    exact hq_ret1 (()) rfl (rv_arr 1 rfl T99 rfl (ns_len _ _).symm) (by rw [ns_full (by omega)]) (fun _ h => Mm.pick h [] (by simp))

theorem gf_Mul_ct (a b : UInt8) (w : World) : Ct0 Tryd.prog 125 #[vb a, vb b] w (vb (mulG a b)) := by
  refine ct0_of Tryd.func125 rfl Tryd.ntmps125 rfl ?_
  refine hc_seq ?_
  refine hc_region ?_
  refine hl_y rfl rfl rfl (y_assign (v := vb 0) rfl rfl) ?_
  refine hl_nil ?_
  refine hq_then ?_
  refine hc_scope ?_
  refine hc_seq ?_
  refine hc_label ?_
  refine hq_then ?_
  refine hc_seq ?_
  refine hc_block ?_
  refine hc_loop (fun k => True ∧ True) (fun k => (gSt a b k).1.toNat) (fun k => [(0, vb (gSt a b k).1), (1, vb (gSt a b k).2.1), (4, vb (gSt a b k).2.2)]) (fun k => Mm w []) (0) ⟨trivial, trivial⟩ ⟨rfl, rfl, rfl, trivial⟩ (fun _ h => h) ?_
  intro k hk
  refine hc_seq ?_
  refine hc_block ?_
  refine hc_seq ?_
  refine hc_block ?_
  refine hc_seq ?_
  refine hc_region ?_
  refine hl_y rfl rfl rfl (y_move rfl rfl) ?_
  refine hl_y rfl rfl rfl (y_eqlb (q := 0) rfl rfl rfl) ?_
  refine hl_y rfl rfl rfl (y_assign rfl rfl) ?_
  refine hl_nil ?_
  refine hq_then ?_
  refine hc_if rfl (fun c0 => ?_) (fun c0 => ?_)
  · replace c0 := of_decide_eq_true c0
    refine hc_exit ?_
    refine hq_in_other rfl (hq_then_exit (hq_in_other rfl (hq_then_exit (hq_loop_exit (hq_in_same (hq_then ?_))))))
    refine hc_seq ?_
    refine hc_region ?_
    refine hl_y rfl rfl rfl (y_move rfl rfl) ?_
    refine hl_y rfl rfl rfl (y_assign rfl rfl) ?_
    refine hl_nil ?_
    refine hq_then ?_
    refine hc_ret ?_
    exact hq_scope_ret (hq_ret1 (()) rfl (rv_tmp rfl) (by rw [mulG_of c0]) (fun _ h => Mm.pick h [] (by simp)))
  · replace c0 := of_decide_eq_false c0
    refine hc_seq ?_
    refine hc_region ?_
    refine hl_y rfl rfl rfl (y_move rfl rfl) ?_
    refine hl_y rfl rfl rfl (y_andb (q := 1) rfl rfl rfl) ?_
    refine hl_y rfl rfl rfl (y_eqlb (q := 0) rfl rfl rfl) ?_
    refine hl_y rfl rfl rfl (y_assign rfl rfl) ?_
    refine hl_nil ?_
    refine hq_then ?_
    refine hc_if rfl (fun c1 => ?_) (fun c1 => ?_)
    · replace c1 := of_decide_eq_true c1
      refine hc_exit ?_
      refine hq_in_other rfl (hq_then_exit (hq_in_same (hq_then ?_)))
      refine hc_region ?_
      refine hl_y rfl rfl rfl (y_move rfl rfl) ?_
      refine hl_y rfl rfl rfl (y_shrb (m := 1) rfl rfl rfl rfl (by omega)) ?_
      refine hl_y rfl rfl rfl (y_move rfl rfl) ?_
      refine hl_i rfl rfl rfl (e_call0 rfl F127 rfl (fun w hw => gf_Twice_ct _ w) rfl) ?_; intro _
      refine hl_y rfl rfl rfl (y_assign rfl rfl) ?_
      refine hl_y rfl rfl rfl (y_assign rfl rfl) ?_
      refine hl_nil ?_
      exact hq_round (k + 1) (gSt_lt c0) ⟨trivial, trivial⟩ ⟨rfl, rfl, lk_eq rfl (by first | exact congrArg vb (if_pos c1).symm | exact congrArg vb (if_neg c1).symm), trivial⟩ (fun _ h => h)
    · replace c1 := of_decide_eq_false c1
      refine hc_skip ?_
      refine hq_in (hq_then ?_)
      refine hc_region ?_
      refine hl_y rfl rfl rfl (y_move rfl rfl) ?_
      refine hl_y rfl rfl rfl (y_move rfl rfl) ?_
      refine hl_y rfl rfl rfl (y_xorb rfl rfl rfl) ?_
      refine hl_y rfl rfl rfl (y_assign rfl rfl) ?_
      refine hl_nil ?_
      refine hq_in (hq_then ?_)
      refine hc_region ?_
      refine hl_y rfl rfl rfl (y_move rfl rfl) ?_
      refine hl_y rfl rfl rfl (y_shrb (m := 1) rfl rfl rfl rfl (by omega)) ?_
      refine hl_y rfl rfl rfl (y_move rfl rfl) ?_
      refine hl_i rfl rfl rfl (e_call0 rfl F127 rfl (fun w hw => gf_Twice_ct _ w) rfl) ?_; intro _
      refine hl_y rfl rfl rfl (y_assign rfl rfl) ?_
      refine hl_y rfl rfl rfl (y_assign rfl rfl) ?_
      refine hl_nil ?_
      exact hq_round (k + 1) (gSt_lt c0) ⟨trivial, trivial⟩ ⟨rfl, rfl, lk_eq rfl (by first | exact congrArg vb (if_pos c1).symm | exact congrArg vb (if_neg c1).symm), trivial⟩ (fun _ h => h)

theorem gf_Power_ct (a : UInt8) (n m : Nat) (hn : n ≤ 9223372036854775807) (hm : m = redN n) (w : World) : Ct0 Tryd.prog 119 #[vb a, vi n] w (vb (powG a m)) := by
  have hm2 := redN_le n
  refine ct0_of Tryd.func119 rfl Tryd.ntmps119 rfl ?_
  refine hc_seq ?_
  refine hc_region ?_
  refine hl_y rfl rfl rfl (y_assign (v := vb 0) rfl rfl) ?_
  refine hl_nil ?_
  refine hq_then ?_
  refine hc_jumps 0 rfl (fun (k : Nat) => True) (fun (k : Nat) => (pSt a m k).2.2) (fun (k : Nat) => [(0, vb (pSt a m k).2.1), (1, vi (pSt a m k).2.2), (5, vb (pSt a m k).1)]) (fun (k : Nat) => Mm w []) ?_ ?_
  · skip
    refine hc_seq ?_
    refine hc_seq ?_
    refine hc_region ?_
    refine hl_y rfl rfl rfl (y_move rfl rfl) ?_
    refine hl_y rfl rfl rfl (y_gtrn (q := 255) rfl rfl rfl ) ?_
    refine hl_nil ?_
    refine hq_then ?_
    refine hc_if rfl (fun c0 => ?_) (fun c0 => ?_)
    · replace c0 := of_decide_eq_true c0
      refine hc_region ?_
      refine hl_y rfl rfl rfl (y_move rfl rfl) ?_
      refine hl_y rfl rfl rfl (y_subn (q := 1) rfl rfl rfl (by omega) (by omega)) ?_
      refine hl_y rfl rfl rfl (y_remn (q := 255) rfl rfl rfl (by omega)) ?_
      refine hl_y rfl rfl rfl (y_addn (q := 1) rfl rfl rfl (by omega)) ?_
      refine hl_y rfl rfl rfl (y_assign rfl rfl) ?_
      refine HL.sl (s' := [(0, vb a), (1, vi m)]) ⟨rfl, lk_eq rfl (by rw [hm, redN, if_pos c0]), trivial⟩ ?_
      refine hl_nil ?_
      refine hq_then ?_
      refine hc_seq ?_
      refine hc_region ?_
      refine hl_y rfl rfl rfl (y_assign (v := vb 1) rfl rfl) ?_
      refine hl_nil ?_
      refine hq_then ?_
      refine hc_seq ?_
      refine hc_label ?_
      refine hq_then ?_
      refine hc_seq ?_
      refine hc_seq ?_
      refine hc_region ?_
      refine hl_y rfl rfl rfl (y_move rfl rfl) ?_
      refine hl_y rfl rfl rfl (y_lssn (q := 1) rfl rfl rfl ) ?_
      refine hl_nil ?_
      refine hq_then ?_
      refine hc_if rfl (fun c1 => ?_) (fun c1 => ?_)
      · replace c1 := of_decide_eq_true c1
        refine hc_seq ?_
        refine hc_region ?_
        refine hl_y rfl rfl rfl (y_move rfl rfl) ?_
        refine hl_y rfl rfl rfl (y_assign rfl rfl) ?_
        refine hl_nil ?_
        refine hq_then ?_
        refine hc_ret ?_
        exact hq_then_ret (hq_jump0_ret (hq_ret1 (()) rfl (rv_tmp rfl) (by rw [powG_of (k := 0) (by omega) c1]; try rfl) (fun _ h => Mm.pick h [] (by simp))))
      · replace c1 := of_decide_eq_false c1
        refine hc_skip ?_
        refine hq_then ?_
        refine hc_seq ?_
        refine hc_seq ?_
        refine hc_region ?_
        refine hl_y rfl rfl rfl (y_move rfl rfl) ?_
        refine hl_y rfl rfl rfl (y_andn1 rfl rfl rfl (by omega)) ?_
        refine hl_y rfl rfl rfl (y_eqln (q := 1) rfl rfl rfl ) ?_
        refine hl_nil ?_
        refine hq_then ?_
        refine hc_if rfl (fun c2 => ?_) (fun c2 => ?_)
        · replace c2 := of_decide_eq_true c2
          refine hc_region ?_
          refine hl_y rfl rfl rfl (y_move rfl rfl) ?_
          refine hl_y rfl rfl rfl (y_move rfl rfl) ?_
          refine hl_i rfl rfl rfl (e_call0 rfl F125 rfl (fun w hw => gf_Mul_ct 1 _ w) rfl) ?_; intro _
          refine hl_y rfl rfl rfl (y_assign rfl rfl) ?_
          refine hl_nil ?_
          refine hq_then ?_
          refine hc_seq ?_
          refine hc_region ?_
          refine hl_y rfl rfl rfl (y_move rfl rfl) ?_
          refine hl_y rfl rfl rfl (y_move rfl rfl) ?_
          refine hl_i rfl rfl rfl (e_call0 rfl F125 rfl (fun w hw => gf_Mul_ct _ _ w) rfl) ?_; intro _
          refine hl_y rfl rfl rfl (y_move rfl rfl) ?_
          refine hl_y rfl rfl rfl (y_shrn (m := 1) rfl rfl rfl rfl (by omega)) ?_
          refine hl_y rfl rfl rfl (y_assign rfl rfl) ?_
          refine hl_y rfl rfl rfl (y_assign rfl rfl) ?_
          refine hl_nil ?_
          refine hq_then ?_
          refine hc_goto ?_
          exact hq_jump0 (1) trivial ⟨rfl, rfl, lk_eq rfl (by first | exact congrArg vb (if_pos c2).symm | exact congrArg vb (if_neg c2).symm), trivial⟩ (fun _ h => h)
        · replace c2 := of_decide_eq_false c2
          refine hc_skip ?_
          refine hq_then ?_
          refine hc_seq ?_
          refine hc_region ?_
          refine hl_y rfl rfl rfl (y_move rfl rfl) ?_
          refine hl_y rfl rfl rfl (y_move rfl rfl) ?_
          refine hl_i rfl rfl rfl (e_call0 rfl F125 rfl (fun w hw => gf_Mul_ct _ _ w) rfl) ?_; intro _
          refine hl_y rfl rfl rfl (y_move rfl rfl) ?_
          refine hl_y rfl rfl rfl (y_shrn (m := 1) rfl rfl rfl rfl (by omega)) ?_
          refine hl_y rfl rfl rfl (y_assign rfl rfl) ?_
          refine hl_y rfl rfl rfl (y_assign rfl rfl) ?_
          refine hl_nil ?_
          refine hq_then ?_
          refine hc_goto ?_
          exact hq_jump0 (1) trivial ⟨rfl, rfl, lk_eq rfl (by first | exact congrArg vb (if_pos c2).symm | exact congrArg vb (if_neg c2).symm), trivial⟩ (fun _ h => h)
    · replace c0 := of_decide_eq_false c0
      refine HC.sl (s' := [(0, vb a), (1, vi m)]) ⟨rfl, lk_eq rfl (by rw [hm, redN, if_neg c0]), trivial⟩ ?_
      refine hc_skip ?_
      refine hq_then ?_
      refine hc_seq ?_
      refine hc_region ?_
      refine hl_y rfl rfl rfl (y_assign (v := vb 1) rfl rfl) ?_
      refine hl_nil ?_
      refine hq_then ?_
      refine hc_seq ?_
      refine hc_label ?_
      refine hq_then ?_
      refine hc_seq ?_
      refine hc_seq ?_
      refine hc_region ?_
      refine hl_y rfl rfl rfl (y_move rfl rfl) ?_
      refine hl_y rfl rfl rfl (y_lssn (q := 1) rfl rfl rfl ) ?_
      refine hl_nil ?_
      refine hq_then ?_
      refine hc_if rfl (fun c1 => ?_) (fun c1 => ?_)
      · replace c1 := of_decide_eq_true c1
        refine hc_seq ?_
        refine hc_region ?_
        refine hl_y rfl rfl rfl (y_move rfl rfl) ?_
        refine hl_y rfl rfl rfl (y_assign rfl rfl) ?_
        refine hl_nil ?_
        refine hq_then ?_
        refine hc_ret ?_
        exact hq_then_ret (hq_jump0_ret (hq_ret1 (()) rfl (rv_tmp rfl) (by rw [powG_of (k := 0) (by omega) c1]; try rfl) (fun _ h => Mm.pick h [] (by simp))))
      · replace c1 := of_decide_eq_false c1
        refine hc_skip ?_
        refine hq_then ?_
        refine hc_seq ?_
        refine hc_seq ?_
        refine hc_region ?_
        refine hl_y rfl rfl rfl (y_move rfl rfl) ?_
        refine hl_y rfl rfl rfl (y_andn1 rfl rfl rfl (by omega)) ?_
        refine hl_y rfl rfl rfl (y_eqln (q := 1) rfl rfl rfl ) ?_
        refine hl_nil ?_
        refine hq_then ?_
        refine hc_if rfl (fun c2 => ?_) (fun c2 => ?_)
        · replace c2 := of_decide_eq_true c2
          refine hc_region ?_
          refine hl_y rfl rfl rfl (y_move rfl rfl) ?_
          refine hl_y rfl rfl rfl (y_move rfl rfl) ?_
          refine hl_i rfl rfl rfl (e_call0 rfl F125 rfl (fun w hw => gf_Mul_ct 1 _ w) rfl) ?_; intro _
          refine hl_y rfl rfl rfl (y_assign rfl rfl) ?_
          refine hl_nil ?_
          refine hq_then ?_
          refine hc_seq ?_
          refine hc_region ?_
          refine hl_y rfl rfl rfl (y_move rfl rfl) ?_
          refine hl_y rfl rfl rfl (y_move rfl rfl) ?_
          refine hl_i rfl rfl rfl (e_call0 rfl F125 rfl (fun w hw => gf_Mul_ct _ _ w) rfl) ?_; intro _
          refine hl_y rfl rfl rfl (y_move rfl rfl) ?_
          refine hl_y rfl rfl rfl (y_shrn (m := 1) rfl rfl rfl rfl (by omega)) ?_
          refine hl_y rfl rfl rfl (y_assign rfl rfl) ?_
          refine hl_y rfl rfl rfl (y_assign rfl rfl) ?_
          refine hl_nil ?_
          refine hq_then ?_
          refine hc_goto ?_
          exact hq_jump0 (1) trivial ⟨rfl, rfl, lk_eq rfl (by first | exact congrArg vb (if_pos c2).symm | exact congrArg vb (if_neg c2).symm), trivial⟩ (fun _ h => h)
        · replace c2 := of_decide_eq_false c2
          refine hc_skip ?_
          refine hq_then ?_
          refine hc_seq ?_
          refine hc_region ?_
          refine hl_y rfl rfl rfl (y_move rfl rfl) ?_
          refine hl_y rfl rfl rfl (y_move rfl rfl) ?_
          refine hl_i rfl rfl rfl (e_call0 rfl F125 rfl (fun w hw => gf_Mul_ct _ _ w) rfl) ?_; intro _
          refine hl_y rfl rfl rfl (y_move rfl rfl) ?_
          refine hl_y rfl rfl rfl (y_shrn (m := 1) rfl rfl rfl rfl (by omega)) ?_
          refine hl_y rfl rfl rfl (y_assign rfl rfl) ?_
          refine hl_y rfl rfl rfl (y_assign rfl rfl) ?_
          refine hl_nil ?_
          refine hq_then ?_
          refine hc_goto ?_
          exact hq_jump0 (1) trivial ⟨rfl, rfl, lk_eq rfl (by first | exact congrArg vb (if_pos c2).symm | exact congrArg vb (if_neg c2).symm), trivial⟩ (fun _ h => h)
  · intro k hk
    have hb := pSt_le a m k
    refine hc_seq ?_
    refine hc_skip ?_
    refine hq_then ?_
    refine hc_seq ?_
    refine hc_seq ?_
    refine hc_region ?_
    refine hl_y rfl rfl rfl (y_move rfl rfl) ?_
    refine hl_y rfl rfl rfl (y_lssn (q := 1) rfl rfl rfl ) ?_
    refine hl_nil ?_
    refine hq_then ?_
    refine hc_if rfl (fun c1 => ?_) (fun c1 => ?_)
    · replace c1 := of_decide_eq_true c1
      refine hc_seq ?_
      refine hc_region ?_
      refine hl_y rfl rfl rfl (y_move rfl rfl) ?_
      refine hl_y rfl rfl rfl (y_assign rfl rfl) ?_
      refine hl_nil ?_
      refine hq_then ?_
      refine hc_ret ?_
      exact hq_then_ret (hq_jump_ret (hq_ret1 (()) rfl (rv_tmp rfl) (by rw [powG_of (k := k) (by omega) c1]; try rfl) (fun _ h => Mm.pick h [] (by simp))))
    · replace c1 := of_decide_eq_false c1
      refine hc_skip ?_
      refine hq_then ?_
      refine hc_seq ?_
      refine hc_seq ?_
      refine hc_region ?_
      refine hl_y rfl rfl rfl (y_move rfl rfl) ?_
      refine hl_y rfl rfl rfl (y_andn1 rfl rfl rfl (by omega)) ?_
      refine hl_y rfl rfl rfl (y_eqln (q := 1) rfl rfl rfl ) ?_
      refine hl_nil ?_
      refine hq_then ?_
      refine hc_if rfl (fun c2 => ?_) (fun c2 => ?_)
      · replace c2 := of_decide_eq_true c2
        refine hc_region ?_
        refine hl_y rfl rfl rfl (y_move rfl rfl) ?_
        refine hl_y rfl rfl rfl (y_move rfl rfl) ?_
        refine hl_i rfl rfl rfl (e_call0 rfl F125 rfl (fun w hw => gf_Mul_ct _ _ w) rfl) ?_; intro _
        refine hl_y rfl rfl rfl (y_assign rfl rfl) ?_
        refine hl_nil ?_
        refine hq_then ?_
        refine hc_seq ?_
        refine hc_region ?_
        refine hl_y rfl rfl rfl (y_move rfl rfl) ?_
        refine hl_y rfl rfl rfl (y_move rfl rfl) ?_
        refine hl_i rfl rfl rfl (e_call0 rfl F125 rfl (fun w hw => gf_Mul_ct _ _ w) rfl) ?_; intro _
        refine hl_y rfl rfl rfl (y_move rfl rfl) ?_
        refine hl_y rfl rfl rfl (y_shrn (m := 1) rfl rfl rfl rfl (by omega)) ?_
        refine hl_y rfl rfl rfl (y_assign rfl rfl) ?_
        refine hl_y rfl rfl rfl (y_assign rfl rfl) ?_
        refine hl_nil ?_
        refine hq_then ?_
        refine hc_goto ?_
        exact hq_jump (k + 1) (Nat.div_lt_self (by omega) (by decide)) trivial ⟨rfl, rfl, lk_eq rfl (by first | exact congrArg vb (if_pos c2).symm | exact congrArg vb (if_neg c2).symm), trivial⟩ (fun _ h => h)
      · replace c2 := of_decide_eq_false c2
        refine hc_skip ?_
        refine hq_then ?_
        refine hc_seq ?_
        refine hc_region ?_
        refine hl_y rfl rfl rfl (y_move rfl rfl) ?_
        refine hl_y rfl rfl rfl (y_move rfl rfl) ?_
        refine hl_i rfl rfl rfl (e_call0 rfl F125 rfl (fun w hw => gf_Mul_ct _ _ w) rfl) ?_; intro _
        refine hl_y rfl rfl rfl (y_move rfl rfl) ?_
        refine hl_y rfl rfl rfl (y_shrn (m := 1) rfl rfl rfl rfl (by omega)) ?_
        refine hl_y rfl rfl rfl (y_assign rfl rfl) ?_
        refine hl_y rfl rfl rfl (y_assign rfl rfl) ?_
        refine hl_nil ?_
        refine hq_then ?_
        refine hc_goto ?_
        exact hq_jump (k + 1) (Nat.div_lt_self (by omega) (by decide)) trivial ⟨rfl, rfl, lk_eq rfl (by first | exact congrArg vb (if_pos c2).symm | exact congrArg vb (if_neg c2).symm), trivial⟩ (fun _ h => h)

theorem gf_Power_neg_ct (a : UInt8) (n : Int) (hn : n < 1) (h0 : -9223372036854775808 ≤ n) (w : World) : Ct0 Tryd.prog 119 #[vb a, .int .i64 n] w (vb 1) := by
  refine ct0_of Tryd.func119 rfl Tryd.ntmps119 rfl ?_
  refine hc_seq ?_
  refine hc_region ?_
  refine hl_y rfl rfl rfl (y_assign (v := vb 0) rfl rfl) ?_
  refine hl_nil ?_
  refine hq_then ?_
  refine hc_jumps 0 rfl (fun (k : Nat) => False) (fun (k : Nat) => 0) (fun (k : Nat) => []) (fun (k : Nat) => Mm w []) ?_ ?_
  · skip
    refine hc_seq ?_
    refine hc_seq ?_
    refine hc_region ?_
    refine hl_y rfl rfl rfl (y_move rfl rfl) ?_
    refine hl_y rfl rfl rfl (y_gtri (q := 255) rfl rfl rfl ) ?_
    refine hl_nil ?_
    refine hq_then ?_
    refine hc_if rfl (fun c0 => ?_) (fun c0 => ?_)
    · replace c0 := of_decide_eq_true c0
      exfalso; omega
    · replace c0 := of_decide_eq_false c0
      refine hc_skip ?_
      refine hq_then ?_
      refine hc_seq ?_
      refine hc_region ?_
      refine hl_y rfl rfl rfl (y_assign (v := vb 1) rfl rfl) ?_
      refine hl_nil ?_
      refine hq_then ?_
      refine hc_seq ?_
      refine hc_label ?_
      refine hq_then ?_
      refine hc_seq ?_
      refine hc_seq ?_
      refine hc_region ?_
      refine hl_y rfl rfl rfl (y_move rfl rfl) ?_
      refine hl_y rfl rfl rfl (y_lssi (q := 1) rfl rfl rfl ) ?_
      refine hl_nil ?_
      refine hq_then ?_
      refine hc_if rfl (fun c1 => ?_) (fun c1 => ?_)
      · replace c1 := of_decide_eq_true c1
        refine hc_seq ?_
        refine hc_region ?_
        refine hl_y rfl rfl rfl (y_move rfl rfl) ?_
        refine hl_y rfl rfl rfl (y_assign rfl rfl) ?_
        refine hl_nil ?_
        refine hq_then ?_
        refine hc_ret ?_
        exact hq_then_ret (hq_jump0_ret (hq_ret1 (()) rfl (rv_tmp rfl) rfl (fun _ h => Mm.pick h [] (by simp))))
      · replace c1 := of_decide_eq_false c1
        exfalso; omega
  · intro k hk
    exact hk.elim

theorem box_build : ∀ w, (Instr.build 110 ((List.range 256).map fun i => (i, vb (boxF i))).toArray).run Tryd.prog w = .ok (.agg (ns vb 256 boxF).toArray) w := fun w => by kernel_rfl
set_option maxRecDepth 100000 in
theorem gf_Box_ct (a : UInt8) (w : World) : Ct0 Tryd.prog 115 #[vb a] w (vb (boxT a)) := by
  refine ct0_of Tryd.func115 rfl Tryd.ntmps115 rfl ?_
  refine hc_seq ?_
  refine hc_region ?_
  refine hl_y rfl rfl rfl (y_assign (v := vb 0) rfl rfl) ?_
  refine hl_nil ?_
  refine hq_then ?_
  refine hc_seq ?_
  refine hc_region ?_
  refine hl_y rfl rfl rfl (y_build rfl box_build (by kernel_rfl)) ?_
  refine hl_y rfl rfl rfl (y_move rfl rfl) ?_
  refine hl_y rfl rfl rfl (y_ixn rfl T110 O5 rfl rfl (UInt8.toNat_lt _) (by omega)) ?_
  refine hl_y rfl rfl rfl (y_assign rfl rfl) ?_
  refine hl_nil ?_
  refine hq_then ?_
  refine hc_ret ?_
  exact hq_ret1 (()) rfl (rv_tmp rfl) rfl (fun _ h => Mm.pick h [] (by simp))

theorem gf_Column1_ct (f : Nat → UInt8) (i g j : Nat) (w0 w : World) (L : List Own) (hL : L[j]? = some (.blk g 99 (ns vb 4 f))) (hm : Mm w0 L w) : CtM Tryd.prog 126 #[vi i, .pointer (some ⟨g, 0, none⟩)] w (fun _ : Unit => vb (f (i % 4))) (fun _ => Mm w0 L) := by
  refine ctM_of Tryd.func126 rfl Tryd.ntmps126 rfl hm ?_
  refine hc_seq ?_
  refine hc_region ?_
  refine hl_y rfl rfl rfl (y_assign (v := vb 0) rfl rfl) ?_
  refine hl_nil ?_
  refine hq_then ?_
  refine hc_seq ?_
  refine hc_region ?_
  refine hl_y rfl rfl rfl (y_move rfl rfl) ?_
  refine hl_y rfl rfl rfl (y_remn (q := 4) rfl rfl rfl (by omega)) ?_
  refine hl_y rfl rfl rfl (y_ixa1 rfl T99 O5 rfl rfl (by omega)) ?_
  refine hl_y rfl rfl rfl (y_ldn j rfl O5 rfl hL (by omega)) ?_
  refine hl_y rfl rfl rfl (y_assign rfl rfl) ?_
  refine hl_nil ?_
  refine hq_then ?_
  refine hc_ret ?_
  exact hq_ret1 (()) rfl (rv_tmp rfl) rfl (fun _ h => h)

theorem gf_Column_ct (f : Nat → UInt8) (w : World) : Ct0 Tryd.prog 120 #[.agg (ns vb 4 f).toArray] w (.agg (ns vb 4 (colG f)).toArray) := by
  refine ct0_of Tryd.func120 rfl Tryd.ntmps120 rfl ?_
  refine hc_seq ?_
  refine hc_region ?_
  refine hl_i rfl rfl rfl (e_boxa rfl rfl) ?_; intro g1
  refine hl_i rfl rfl rfl (e_alloc rfl Z99) ?_; intro g2
  refine hl_nil ?_
  refine hq_then ?_
  refine hc_seq ?_
  refine hc_region ?_
  refine hl_y rfl rfl rfl (y_func (vs := #[.pointer (some ⟨g1, 0, none⟩)]) rfl rfl) ?_
  refine hl_y rfl rfl rfl (y_assign rfl rfl) ?_
  refine hl_nil ?_
  refine hq_then ?_
  refine hc_seq ?_
  refine hc_region ?_
  refine hl_y rfl rfl rfl (y_ixa1 (k := 0) rfl T99 O5 rfl rfl (by omega)) ?_
  refine hl_y rfl rfl rfl (y_ldn 1 rfl O5 rfl rfl (by omega)) ?_
  refine hl_y rfl rfl rfl (y_ixa1 (k := 1) rfl T99 O5 rfl rfl (by omega)) ?_
  refine hl_y rfl rfl rfl (y_ldn 1 rfl O5 rfl rfl (by omega)) ?_
  refine hl_y rfl rfl rfl (y_xorb rfl rfl rfl) ?_
  refine hl_y rfl rfl rfl (y_ixa1 (k := 2) rfl T99 O5 rfl rfl (by omega)) ?_
  refine hl_y rfl rfl rfl (y_ldn 1 rfl O5 rfl rfl (by omega)) ?_
  refine hl_y rfl rfl rfl (y_xorb rfl rfl rfl) ?_
  refine hl_y rfl rfl rfl (y_ixa1 (k := 3) rfl T99 O5 rfl rfl (by omega)) ?_
  refine hl_y rfl rfl rfl (y_ldn 1 rfl O5 rfl rfl (by omega)) ?_
  refine hl_y rfl rfl rfl (y_xorb rfl rfl rfl) ?_
  refine hl_y rfl rfl rfl (y_assign rfl rfl) ?_
  refine hl_nil ?_
  refine hq_then ?_
  refine hc_seq ?_
  refine hc_seq ?_
  refine hc_region ?_
  refine hl_y rfl rfl rfl (y_move (v := vi 0) rfl rfl) ?_
  refine hl_nil ?_
  refine hq_then ?_
  refine hc_block ?_
  refine hc_loop (fun k => k ≤ 4) (fun k => 4 - k) (fun k => [(1, .pointer (some ⟨g1, 0, none⟩)), (2, .pointer (some ⟨g2, 0, none⟩)), (3, .func (.func 126) #[] #[.pointer (some ⟨g1, 0, none⟩)]), (4, vb (f 0 ^^^ f 1 ^^^ f 2 ^^^ f 3)), (18, vi k)]) (fun k => Mm w [.blk g2 99 (ns vb 4 (fun i => if i < k then colG f i else 0)), .blk g1 99 (ns vb 4 f)]) (0) (by omega) ⟨rfl, rfl, rfl, rfl, lk_int rfl (by omega), trivial⟩ (fun _ h => Mm.mm h (by simp)) ?_
  intro k hk
  refine hc_seq ?_
  refine hc_region ?_
  refine hl_y rfl rfl rfl (y_lssn (q := 4) rfl rfl rfl ) ?_
  refine hl_nil ?_
  refine hq_then ?_
  refine hc_seq ?_
  refine hc_if rfl (fun c0 => ?_) (fun c0 => ?_)
  · replace c0 := of_decide_eq_true c0
    refine hc_skip ?_
    refine hq_then ?_
    refine hc_seq ?_
    refine hc_block ?_
    refine hc_seq ?_
    refine hc_region ?_
    refine hl_y rfl rfl rfl (y_move rfl rfl) ?_
    refine hl_y rfl rfl rfl (y_assign rfl rfl) ?_
    refine hl_nil ?_
    refine hq_then ?_
    refine hc_region ?_
    refine hl_y rfl rfl rfl (y_move rfl rfl) ?_
    refine hl_y rfl rfl rfl (y_move rfl rfl) ?_
    refine hl_y rfl rfl rfl (y_move rfl rfl) ?_
    refine hl_i rfl rfl rfl (e_callM rfl F126 rfl (fun w hw => gf_Column1_ct f k g1 1 _ w _ rfl hw) rfl) ?_; intro _
    refine hl_y rfl rfl rfl (y_move rfl rfl) ?_
    refine hl_y rfl rfl rfl (y_xorb rfl rfl rfl) ?_
    refine hl_y rfl rfl rfl (y_move rfl rfl) ?_
    refine hl_y rfl rfl rfl (y_move rfl rfl) ?_
    refine hl_i rfl rfl rfl (e_callM rfl F126 rfl (fun w hw => gf_Column1_ct f k g1 1 _ w _ rfl hw) rfl) ?_; intro _
    refine hl_y rfl rfl rfl (y_move rfl rfl) ?_
    refine hl_y rfl rfl rfl (y_move rfl rfl) ?_
    refine hl_y rfl rfl rfl (y_addn (q := 1) rfl rfl rfl (by omega)) ?_
    refine hl_i rfl rfl rfl (e_callM rfl F126 rfl (fun w hw => gf_Column1_ct f (k + 1) g1 1 _ w _ rfl hw) rfl) ?_; intro _
    refine hl_y rfl rfl rfl (y_xorb rfl rfl rfl) ?_
    refine hl_i rfl rfl rfl (e_call0 rfl F127 rfl (fun w hw => gf_Twice_ct _ w) rfl) ?_; intro _
    refine hl_y rfl rfl rfl (y_xorb rfl rfl rfl) ?_
    refine hl_y rfl rfl rfl (y_ixa1 rfl T99 O5 rfl rfl (by omega)) ?_
    refine hl_i0 rfl rfl (e_stn 0 rfl O5.2 rfl rfl rfl rfl (by omega)) ?_; intro _
    refine hl_nil ?_
    refine hq_in (hq_then ?_)
    refine hc_region ?_
    refine hl_y rfl rfl rfl (y_addn (q := 1) rfl rfl rfl (by omega)) ?_
    refine hl_y rfl rfl rfl (y_move rfl rfl) ?_
    refine hl_nil ?_
    exact hq_round (k + 1) (by omega) (by omega) ⟨rfl, rfl, rfl, rfl, lk_int rfl (by omega), trivial⟩ (fun _ h => Mm.set h 0 rfl (ns_step (f := colG f) (g := fun _ => 0) rfl))
  · replace c0 := of_decide_eq_false c0
    refine hc_exit ?_
    refine hq_then_exit (hq_loop_exit (hq_in_same (hq_then ?_)))
    refine hc_seq ?_
    refine hc_region ?_
    refine hl_y rfl rfl rfl (y_ldw 0 rfl T99 rfl rfl) ?_
    refine hl_i0 rfl rfl (e_stw 0 rfl T99.2 rfl rfl rfl (ns_oneb _ _)) ?_; intro _
    refine hl_nil ?_
    refine hq_then ?_
    refine hc_ret ?_
    exact hq_ret1 (()) rfl (rv_arr 0 rfl T99 rfl (ns_len _ _).symm) (by rw [ns_full (by omega)]) (fun _ h => Mm.pick h [] (by simp))

end Go.Proofs.YtcdidapkpfnphaaDoor
