/- The counter and single blocks: what each call gives back. -/
import Derived.Test.YtcdidapkpfnphaaDoorAesC
import Derived.Test.YtcdidapkpfnphaaDoorLibI
import Derived.Test.YtcdidapkpfnphaaDoorSpecCtr
namespace Go.Proofs.YtcdidapkpfnphaaDoor
open Go.RowKit
set_option linter.unusedVariables false
set_option linter.unusedSimpArgs false
set_option maxRecDepth 100000
theorem ctr_Next_ct (c : Nat → UInt8) (w : World) : Ct0 Tryd.prog 94 #[.agg (ns vb 16 c).toArray] w (.agg (ns vb 16 (addC c 1)).toArray) := by
  refine ct0_of Tryd.func94 rfl Tryd.ntmps94 rfl ?_
  refine hc_seq ?_
  refine hc_region ?_
  refine hl_i rfl rfl rfl (e_boxa rfl rfl) ?_; intro g1
  refine hl_i rfl rfl rfl (e_alloc rfl Z81) ?_; intro g2
  refine hl_nil ?_
  refine hq_then ?_
  refine hc_scope ?_
  refine hc_seq ?_
  refine hc_label ?_
  refine hq_then ?_
  refine hc_seq ?_
  refine hc_seq ?_
  refine hc_region ?_
  refine hl_y rfl rfl rfl (y_assign (v := vi 15) rfl rfl) ?_
  refine hl_nil ?_
  refine hq_then ?_
  refine hc_block ?_
  refine hc_loop (fun k => k ≤ 16 ∧ carry c 1 k = 1) (fun k => 16 - k) (fun k => [(1, .pointer (some ⟨g1, 0, none⟩)), (2, .pointer (some ⟨g2, 0, none⟩)), (3, .int .i64 (15 - (k : Int)))]) (fun k => Mm w [.blk g2 81 (ns vb 16 (fun _ => 0)), .blk g1 81 (ns vb 16 (incS c k))]) (0) ⟨by omega, rfl⟩ ⟨rfl, rfl, lk_int rfl (by omega), trivial⟩ (fun _ h => Mm.set h 1 rfl (ns_ext fun j _ => (if_neg (by omega)).symm)) ?_
  intro k hk
  obtain ⟨hk, hc⟩ := hk
  refine hc_seq ?_
  refine hc_seq ?_
  refine hc_region ?_
  refine hl_y rfl rfl rfl (y_move rfl rfl) ?_
  refine hl_y rfl rfl rfl (y_geqi (q := 0) rfl rfl rfl ) ?_
  refine hl_nil ?_
  refine hq_then ?_
  refine hc_if rfl (fun c0 => ?_) (fun c0 => ?_)
  · replace c0 := of_decide_eq_true c0
    refine HC.sl (s' := [(1, .pointer (some ⟨g1, 0, none⟩)), (2, .pointer (some ⟨g2, 0, none⟩)), (3, vi (15 - k))]) ⟨rfl, rfl, lk_int rfl (by omega), trivial⟩ ?_
    refine hc_skip ?_
    refine hq_then ?_
    refine hc_seq ?_
    refine hc_block ?_
    refine hc_seq ?_
    refine hc_region ?_
    refine hl_y rfl rfl rfl (y_move rfl rfl) ?_
    refine hl_y rfl rfl rfl (y_ixa1 rfl T81 O5 rfl rfl (by omega)) ?_
    refine hl_y rfl rfl rfl (y_ldn 1 rfl O5 rfl rfl (by omega)) ?_
    refine hl_y rfl rfl rfl (y_addb (q := 1) rfl rfl rfl) ?_
    refine hl_y rfl rfl rfl (y_ixa1 rfl T81 O5 rfl rfl (by omega)) ?_
    refine hl_i0 rfl rfl (e_stn 1 rfl O5.2 rfl rfl rfl rfl (by omega)) ?_; intro _
    refine hl_nil ?_
    refine hq_then ?_
    refine hc_seq ?_
    refine hc_region ?_
    refine hl_y rfl rfl rfl (y_move rfl rfl) ?_
    refine hl_y rfl rfl rfl (y_ixa1 rfl T81 O5 rfl rfl (by omega)) ?_
    refine hl_y rfl rfl rfl (y_ldn 1 rfl O5 rfl rfl (by omega)) ?_
    refine hl_y rfl rfl rfl (y_neqb (q := 0) rfl rfl rfl) ?_
    refine hl_nil ?_
    refine hq_then ?_
    refine hc_if rfl (fun c1 => ?_) (fun c1 => ?_)
    · replace c1 := of_decide_eq_true c1
      refine hc_exit ?_
      refine hq_in_other rfl (hq_then_exit (hq_loop_exit (hq_in_same (hq_then ?_))))
      refine hc_seq ?_
      refine hc_region ?_
      refine hl_y rfl rfl rfl (y_ldw 1 rfl T81 rfl rfl) ?_
      refine hl_i0 rfl rfl (e_stw 0 rfl T81.2 rfl rfl rfl (ns_oneb _ _)) ?_; intro _
      refine hl_nil ?_
      refine hq_then ?_
      refine hc_ret ?_
      exact hq_scope_ret (hq_ret1 (()) rfl (rv_arr 0 rfl T81 rfl (ns_len _ _).symm) (agg_ext fun j hj => inc_brk (by omega) hc c1 j hj) (fun _ h => Mm.pick h [] (by simp)))
    · replace c1 := of_decide_eq_false c1
      refine hc_skip ?_
      refine hq_in (hq_then ?_)
      refine hc_region ?_
      refine hl_y rfl rfl rfl (y_move rfl rfl) ?_
      refine hl_y rfl rfl rfl (y_subi (q := 1) rfl rfl rfl (by omega) (by omega)) ?_
      refine hl_y rfl rfl rfl (y_assign rfl rfl) ?_
      refine hl_nil ?_
      exact hq_round (k + 1) (by omega) ⟨by omega, (inc_go (by omega) hc c1).1⟩ ⟨rfl, rfl, lk_int rfl (by omega), trivial⟩ (fun _ h => Mm.set h 1 rfl (ns_ext fun j _ => (inc_go (by omega) hc c1).2 j))
  · replace c0 := of_decide_eq_false c0
    refine hc_exit ?_
    refine hq_then_exit (hq_loop_exit (hq_in_same (hq_then ?_)))
    refine hc_seq ?_
    refine hc_region ?_
    refine hl_y rfl rfl rfl (y_ldw 1 rfl T81 rfl rfl) ?_
    refine hl_i0 rfl rfl (e_stw 0 rfl T81.2 rfl rfl rfl (ns_oneb _ _)) ?_; intro _
    refine hl_nil ?_
    refine hq_then ?_
    refine hc_ret ?_
    exact hq_scope_ret (hq_ret1 (()) rfl (rv_arr 0 rfl T81 rfl (ns_len _ _).symm) (agg_ext fun j hj => if_pos (by omega)) (fun _ h => Mm.pick h [] (by simp)))

theorem r12_counter_ct (l : List UInt8) (v : Value) (n : Nat) (w : World) (hv : Rd w v (ls vb l)) (hl : l.length = 16) (hn : n ≤ 65535) : Ct0 Tryd.prog 98 #[v, vi n] w (.agg (ns vb 16 (addC (keyF l) n)).toArray) := by
  refine ct0_of Tryd.func98 rfl Tryd.ntmps98 rfl ?_
  refine hc_seq ?_
  refine hc_region ?_
  refine hl_i rfl rfl rfl (e_alloc rfl Z81) ?_; intro g4
  refine hl_nil ?_
  refine hq_then ?_
  refine hc_seq ?_
  refine hc_region ?_
  refine hl_i rfl rfl rfl (e_alloc rfl Z81) ?_; intro g5
  refine hl_nil ?_
  refine hq_then ?_
  refine hc_seq ?_
  refine hc_seq ?_
  refine hc_region ?_
  refine hl_y rfl rfl rfl (y_assign (v := vi 0) rfl rfl) ?_
  refine hl_nil ?_
  refine hq_then ?_
  refine hc_block ?_
  refine hc_loop (fun i => i ≤ 16) (fun i => 16 - i) (fun i => [(0, v), (1, vi n), (4, .pointer (some ⟨g4, 0, none⟩)), (5, .pointer (some ⟨g5, 0, none⟩)), (6, vi i)]) (fun i => Mm w [.blk g5 81 (ns vb 16 (fun z => if z < i then keyF l z else 0)), .blk g4 81 (ns vb 16 (fun _ => 0))]) (0) (by omega) ⟨rfl, lk_int rfl (by omega), rfl, rfl, lk_int rfl (by omega), trivial⟩ (fun _ h => Mm.mm h (by simp)) ?_
  intro i hi
  refine hc_seq ?_
  refine hc_seq ?_
  refine hc_region ?_
  refine hl_y rfl rfl rfl (y_move rfl rfl) ?_
  refine hl_y rfl rfl rfl (y_lssn (q := 16) rfl rfl rfl ) ?_
  refine hl_nil ?_
  refine hq_then ?_
  refine hc_if rfl (fun c0 => ?_) (fun c0 => ?_)
  · replace c0 := of_decide_eq_true c0
    refine hc_skip ?_
    refine hq_then ?_
    refine hc_seq ?_
    refine hc_block ?_
    refine hc_region ?_
    refine hl_y rfl rfl rfl (y_move rfl rfl) ?_
    refine hl_y rfl rfl rfl (y_move rfl rfl) ?_
    refine hl_y rfl rfl rfl (y_move rfl rfl) ?_
    refine hl_y rfl rfl rfl (y_ixs rfl S22 rfl (rdF hv) rfl (by first | omega | (simp only [ls_len, ns_len]; omega) | (simp only [List.length_take, List.length_drop, ls_len, ns_len]; omega))) ?_
    refine hl_y rfl rfl rfl (y_ldb rfl O5 rfl (rdF hv) (by omega)) ?_
    refine hl_y rfl rfl rfl (y_ixa1 rfl T81 O5 rfl rfl (by omega)) ?_
    refine hl_i0 rfl rfl (e_stn 0 rfl O5.2 rfl rfl rfl rfl (by omega)) ?_; intro _
    refine hl_nil ?_
    refine hq_in (hq_then ?_)
    refine hc_region ?_
    refine hl_y rfl rfl rfl (y_move rfl rfl) ?_
    refine hl_y rfl rfl rfl (y_addn (q := 1) rfl rfl rfl (by omega)) ?_
    refine hl_y rfl rfl rfl (y_assign rfl rfl) ?_
    refine hl_nil ?_
    exact hq_round (i + 1) (by omega) (by omega) ⟨rfl, lk_int rfl (by omega), rfl, rfl, lk_int rfl (by omega), trivial⟩ (fun _ h => Mm.set h 0 rfl (ns_step (f := keyF l) (g := fun _ => 0) rfl))
  · replace c0 := of_decide_eq_false c0
    refine hc_exit ?_
    refine hq_then_exit (hq_loop_exit (hq_in_same (hq_then ?_)))
    refine hc_seq ?_
    refine hc_region ?_
    refine hl_y rfl rfl rfl (y_move rfl rfl) ?_
    refine hl_y rfl rfl rfl (y_assign rfl rfl) ?_
    refine hl_nil ?_
    refine hq_then ?_
    refine hc_seq ?_
    refine hc_seq ?_
    refine hc_region ?_
    refine hl_y rfl rfl rfl (y_assign (v := vi 15) rfl rfl) ?_
    refine hl_nil ?_
    refine hq_then ?_
    refine hc_block ?_
    refine hc_loop (fun k => k ≤ 16) (fun k => 16 - k) (fun k => [(4, .pointer (some ⟨g4, 0, none⟩)), (5, .pointer (some ⟨g5, 0, none⟩)), (7, vi (carry (keyF l) n k)), (8, .int .i64 (15 - (k : Int)))]) (fun k => Mm w [.blk g5 81 (ns vb 16 (cntS (keyF l) n k)), .blk g4 81 (ns vb 16 (fun _ => 0))]) (0) (by omega) ⟨rfl, rfl, rfl, lk_int rfl (by omega), trivial⟩ (fun _ h => Mm.set h 0 rfl (ns_ext fun j _ => (if_pos (by omega)).trans (if_neg (by omega)).symm)) ?_
    intro k hk
    refine hc_seq ?_
    refine hc_seq ?_
    refine hc_region ?_
    refine hl_y rfl rfl rfl (y_move rfl rfl) ?_
    refine hl_y rfl rfl rfl (y_geqi (q := 0) rfl rfl rfl ) ?_
    refine hl_nil ?_
    refine hq_then ?_
    refine hc_if rfl (fun c1 => ?_) (fun c1 => ?_)
    · replace c1 := of_decide_eq_true c1
      refine HC.sl (s' := [(4, .pointer (some ⟨g4, 0, none⟩)), (5, .pointer (some ⟨g5, 0, none⟩)), (7, vi (carry (keyF l) n k)), (8, vi (15 - k))]) ⟨rfl, rfl, rfl, lk_int rfl (by omega), trivial⟩ ?_
      refine hc_skip ?_
      refine hq_then ?_
      refine hc_seq ?_
      refine hc_block ?_
      refine hc_seq ?_
      refine hc_region ?_
      refine hl_y rfl rfl rfl (y_move rfl rfl) ?_
      refine hl_y rfl rfl rfl (y_move rfl rfl) ?_
      refine hl_y rfl rfl rfl (y_ixa1 rfl T81 O5 rfl rfl (by omega)) ?_
      refine hl_y rfl rfl rfl (y_ldn 0 rfl O5 rfl rfl (by omega)) ?_
      refine hl_y rfl rfl rfl (y_conv rfl U5 U3 rfl (conv_bi _)) ?_
      refine hl_y rfl rfl rfl (y_addn rfl rfl rfl (by have := UInt8.toNat_lt (cntS (keyF l) n k (15 - k)); have := carry_le (c := keyF l) (n := n) (by omega) k; omega)) ?_
      refine hl_y rfl rfl rfl (y_assign rfl rfl) ?_
      refine hl_nil ?_
      refine hq_then ?_
      refine hc_seq ?_
      refine hc_region ?_
      refine hl_y rfl rfl rfl (y_move rfl rfl) ?_
      refine hl_y rfl rfl rfl (y_move rfl rfl) ?_
      refine hl_y rfl rfl rfl (y_remn (q := 256) rfl rfl rfl (by omega)) ?_
      refine hl_y rfl rfl rfl (y_conv rfl U3 U5 rfl (wrap_nb _)) ?_
      refine hl_y rfl rfl rfl (y_ixa1 rfl T81 O5 rfl rfl (by omega)) ?_
      refine hl_i0 rfl rfl (e_stn 0 rfl O5.2 rfl rfl rfl rfl (by omega)) ?_; intro _
      refine hl_nil ?_
      refine hq_then ?_
      refine hc_region ?_
      refine hl_y rfl rfl rfl (y_move rfl rfl) ?_
      refine hl_y rfl rfl rfl (y_quon (q := 256) rfl rfl rfl (by omega) (by have := UInt8.toNat_lt (cntS (keyF l) n k (15 - k)); have := carry_le (c := keyF l) (n := n) (by omega) k; omega)) ?_
      refine hl_y rfl rfl rfl (y_assign rfl rfl) ?_
      refine hl_nil ?_
      refine hq_in (hq_then ?_)
      refine hc_region ?_
      refine hl_y rfl rfl rfl (y_move rfl rfl) ?_
      refine hl_y rfl rfl rfl (y_subi (q := 1) rfl rfl rfl (by omega) (by omega)) ?_
      refine hl_y rfl rfl rfl (y_assign rfl rfl) ?_
      refine hl_nil ?_
      exact hq_round (k + 1) (by omega) (by omega) ⟨rfl, rfl, lk_int rfl (congrArg Int.ofNat (cnt_carry (by omega))), lk_int rfl (by omega), trivial⟩ (fun _ h => Mm.set h 0 rfl (ns_ext fun j _ => cnt_step (by omega) j))
    · replace c1 := of_decide_eq_false c1
      refine hc_exit ?_
      refine hq_then_exit (hq_loop_exit (hq_in_same (hq_then ?_)))
      refine hc_seq ?_
      refine hc_region ?_
      refine hl_y rfl rfl rfl (y_ldw 0 rfl T81 rfl rfl) ?_
      refine hl_i0 rfl rfl (e_stw 1 rfl T81.2 rfl rfl rfl (ns_oneb _ _)) ?_; intro _
      refine hl_nil ?_
      refine hq_then ?_
      refine hc_ret ?_
      exact hq_ret1 (()) rfl (rv_arr 1 rfl T81 rfl (ns_len _ _).symm) (agg_ext fun j hj => if_pos (by omega)) (fun _ h => Mm.pick h [] (by simp))

theorem ctr_begun_ct (kl nl : List UInt8) (kv nv : Value)  (w : World) (hk : Rd w kv (ls vb kl)) (hn : Rd w nv (ls vb nl)) : Ct0 Tryd.prog 91 #[kv, nv] w (.tuple #[.agg (ns vb 240 (begK kl nl)).toArray, .agg (ns vb 16 (begC nl)).toArray, vi (begF kl nl)]) := by
  refine ct0_of Tryd.func91 rfl Tryd.ntmps91 rfl ?_
  refine hc_seq ?_
  refine hc_region ?_
  refine hl_i rfl rfl rfl (e_alloc rfl Z83) ?_; intro g4
  refine hl_i rfl rfl rfl (e_alloc rfl Z81) ?_; intro g5
  refine hl_y rfl rfl rfl (y_assign (v := vi 0) rfl rfl) ?_
  refine hl_nil ?_
  refine hq_then ?_
  refine hc_seq ?_
  refine hc_seq ?_
  refine hc_region ?_
  refine hl_y rfl rfl rfl (y_move rfl rfl) ?_
  refine hl_y rfl rfl rfl (y_lenE (nl.length) rfl rfl S22 rfl (rdF hn) (by first | rfl | simp only [ls_len, ns_len] | (simp only [ls_len, ns_len]; omega))) ?_
  refine hl_y rfl rfl rfl (y_neqn (q := 16) rfl rfl rfl ) ?_
  refine hl_nil ?_
  refine hq_then ?_
  refine hc_if rfl (fun c0 => ?_) (fun c0 => ?_)
  · replace c0 := of_decide_eq_true c0
    refine hc_seq ?_
    refine hc_drawP [0, 1] follows_mixed ?_
    refine hh_y 0 rfl rfl rfl rfl (by kernel_rfl) (by kernel_rfl) (by kernel_rfl) (fun _ h => Mm.pick h [0, 1] (by decide)) (y_ldw 1 rfl T83 rfl rfl) ?_
    refine hh_y 1 rfl rfl rfl rfl (by kernel_rfl) (by kernel_rfl) (by kernel_rfl) (fun _ h => Mm.pick h [0, 1] (by decide)) (y_ldw 0 rfl T81 rfl rfl) ?_
    refine hh_i0 2 rfl rfl rfl (by kernel_rfl) (e_stw 1 rfl T83.2 rfl rfl rfl (ns_oneb _ _)) (fun _ _ h => Mm.pick h [0, 1] (by decide)) ?_; intro _
    refine hh_i0 3 rfl rfl rfl (by kernel_rfl) (e_stw 0 rfl T81.2 rfl rfl rfl (ns_oneb _ _)) (fun _ _ h => Mm.pick h [0, 1] (by decide)) ?_; intro _
    refine hh_y 4 rfl rfl rfl rfl (by kernel_rfl) (by kernel_rfl) (by kernel_rfl) (fun _ h => Mm.pick h [0, 1] (by decide)) (y_assign (v := vi 4) rfl rfl) ?_
    refine hh_done (by kernel_rfl) ?_
    refine hq_then ?_
    refine hc_ret ?_
    exact hq_then_ret (hq_ret3 (()) rfl (rv_arr 1 rfl T83 rfl (ns_len _ _).symm) (rv_arr 0 rfl T81 rfl (ns_len _ _).symm) (rv_tmp rfl) (by rw [begK, begC, begF, if_neg (by omega), if_neg (by omega), if_neg (by omega)]) (fun _ h => Mm.pick h [] (by simp)))
  · replace c0 := of_decide_eq_false c0
    refine hc_skip ?_
    refine hq_then ?_
    refine hc_seq ?_
    refine hc_region ?_
    refine hl_y rfl rfl rfl (y_move rfl rfl) ?_
    refine hl_i rfl rfl rfl (e_call0 rfl F101 rfl (fun w hw => aes_Schedule_ct _ _ w ((rdF hk) w hw)) rfl) ?_; intro _
    refine hl_y rfl rfl rfl (y_move rfl rfl) ?_
    refine hl_y rfl rfl rfl (y_extract rfl rfl rfl) ?_
    refine hl_y rfl rfl rfl (y_extract rfl rfl rfl) ?_
    refine hl_i0 rfl rfl (e_stw 1 rfl T83.2 rfl rfl rfl (ns_oneb _ _)) ?_; intro _
    refine hl_y rfl rfl rfl (y_assign rfl rfl) ?_
    refine hl_nil ?_
    refine hq_then ?_
    refine hc_seq ?_
    refine hc_region ?_
    refine hl_y rfl rfl rfl (y_slcaw rfl T81 O5 rfl (by omega)) ?_
    refine hl_y rfl rfl rfl (y_move rfl rfl) ?_
    refine hl_i rfl rfl rfl (e_cpn 0 rfl S22 rfl rfl rfl ((RdM.as (rdF hn) (ls_fnl (n := 16) (by omega)))) (by omega) (by omega)) ?_; intro _
    refine HL.mem (fun _ h => Mm.set h 0 rfl (ns_ext fun i hi => if_pos ⟨by omega, by omega⟩)) ?_
    refine hl_nil ?_
    refine hq_then ?_
    refine hc_seq ?_
    refine hc_drawP [0, 1] follows_mixed ?_
    refine hh_y 0 rfl rfl rfl rfl (by kernel_rfl) (by kernel_rfl) (by kernel_rfl) (fun _ h => Mm.pick h [0, 1] (by decide)) (y_ldw 1 rfl T83 rfl rfl) ?_
    refine hh_y 1 rfl rfl rfl rfl (by kernel_rfl) (by kernel_rfl) (by kernel_rfl) (fun _ h => Mm.pick h [0, 1] (by decide)) (y_ldw 0 rfl T81 rfl rfl) ?_
    refine hh_y 2 rfl rfl rfl rfl (by kernel_rfl) (by kernel_rfl) (by kernel_rfl) (fun _ h => Mm.pick h [0, 1] (by decide)) (y_move rfl rfl) ?_
    refine hh_i0 3 rfl rfl rfl (by kernel_rfl) (e_stw 1 rfl T83.2 rfl rfl rfl (ns_oneb _ _)) (fun _ _ h => Mm.pick h [0, 1] (by decide)) ?_; intro _
    refine hh_i0 4 rfl rfl rfl (by kernel_rfl) (e_stw 0 rfl T81.2 rfl rfl rfl (ns_oneb _ _)) (fun _ _ h => Mm.pick h [0, 1] (by decide)) ?_; intro _
    refine hh_y 5 rfl rfl rfl rfl (by kernel_rfl) (by kernel_rfl) (by kernel_rfl) (fun _ h => Mm.pick h [0, 1] (by decide)) (y_assign rfl rfl) ?_
    refine hh_done (by kernel_rfl) ?_
    refine hq_then ?_
    refine hc_ret ?_
    exact hq_ret3 (()) rfl (rv_arr 1 rfl T83 rfl (ns_len _ _).symm) (rv_arr 0 rfl T81 rfl (ns_len _ _).symm) (rv_tmp rfl) (by rw [begK, begC, begF, if_pos (by omega), if_pos (by omega), if_pos (by omega)]; rfl) (fun _ h => Mm.pick h [] (by simp))

theorem r12_Right_t (kl nl : List UInt8) (kv nv : Value)  (w : World) (hk : Rd w kv (ls vb kl)) (hn : Rd w nv (ls vb nl)) (h : okR kl nl) : Ct0 Tryd.prog 95 #[kv, nv] w (.bool true) := by
  obtain ⟨h1, h2⟩ := h
  refine ct0_of Tryd.func95 rfl Tryd.ntmps95 rfl ?_
  refine hc_seq ?_
  refine hc_region ?_
  refine hl_y rfl rfl rfl (y_assign rfl rfl) ?_
  refine hl_nil ?_
  refine hq_then ?_
  refine hc_seq ?_
  refine hc_region ?_
  refine hl_y rfl rfl rfl (y_move rfl rfl) ?_
  refine hl_y rfl rfl rfl (y_lenE (kl.length) rfl rfl S22 rfl (rdF hk) (by first | rfl | simp only [ls_len, ns_len] | (simp only [ls_len, ns_len]; omega))) ?_
  refine hl_y rfl rfl rfl (y_as (y_eqln (q := 32) rfl rfl rfl ) (congrArg Value.bool (decide_eq_true (by omega)))) ?_
  refine hl_y rfl rfl rfl (y_move rfl rfl) ?_
  refine hl_yg 3 8 true rfl rfl rfl rfl rfl (y_move rfl rfl) ?_
  refine hl_yg 3 8 true rfl rfl rfl rfl rfl (y_lenE (nl.length) rfl rfl S22 rfl (rdF hn) (by first | rfl | simp only [ls_len, ns_len] | (simp only [ls_len, ns_len]; omega))) ?_
  refine hl_yg 3 8 true rfl rfl rfl rfl rfl (y_as (y_eqln (q := 16) rfl rfl rfl ) (congrArg Value.bool (decide_eq_true (by omega)))) ?_
  refine hl_y rfl rfl rfl (y_pick (b := true) rfl rfl rfl) ?_
  refine hl_y rfl rfl rfl (y_assign rfl rfl) ?_
  refine hl_nil ?_
  refine hq_then ?_
  refine hc_ret ?_
  exact hq_ret1 (()) rfl (rv_tmp rfl) rfl (fun _ h => Mm.pick h [] (by simp))

theorem r12_Right_f (kl nl : List UInt8) (kv nv : Value)  (w : World) (hk : Rd w kv (ls vb kl)) (hn : Rd w nv (ls vb nl)) (h : ¬ okR kl nl) : Ct0 Tryd.prog 95 #[kv, nv] w (.bool false) := by
  refine ct0_of Tryd.func95 rfl Tryd.ntmps95 rfl ?_
  refine hc_seq ?_
  refine hc_region ?_
  refine hl_y rfl rfl rfl (y_assign rfl rfl) ?_
  refine hl_nil ?_
  refine hq_then ?_
  refine hc_seq ?_
  rcases Decidable.em (kl.length = 32) with c0 | c0
  · skip
    refine hc_region ?_
    refine hl_y rfl rfl rfl (y_move rfl rfl) ?_
    refine hl_y rfl rfl rfl (y_lenE (kl.length) rfl rfl S22 rfl (rdF hk) (by first | rfl | simp only [ls_len, ns_len] | (simp only [ls_len, ns_len]; omega))) ?_
    refine hl_y rfl rfl rfl (y_as (y_eqln (q := 32) rfl rfl rfl ) (congrArg Value.bool (decide_eq_true (by omega)))) ?_
    refine hl_y rfl rfl rfl (y_move rfl rfl) ?_
    refine hl_yg 3 8 true rfl rfl rfl rfl rfl (y_move rfl rfl) ?_
    refine hl_yg 3 8 true rfl rfl rfl rfl rfl (y_lenE (nl.length) rfl rfl S22 rfl (rdF hn) (by first | rfl | simp only [ls_len, ns_len] | (simp only [ls_len, ns_len]; omega))) ?_
    refine hl_yg 3 8 true rfl rfl rfl rfl rfl (y_as (y_eqln (q := 16) rfl rfl rfl ) (congrArg Value.bool (decide_eq_false (fun h2 => h ⟨c0, h2⟩)))) ?_
    refine hl_y rfl rfl rfl (y_pick (b := true) rfl rfl rfl) ?_
    refine hl_y rfl rfl rfl (y_assign rfl rfl) ?_
    refine hl_nil ?_
    refine hq_then ?_
    refine hc_ret ?_
    exact hq_ret1 (()) rfl (rv_tmp rfl) rfl (fun _ h => Mm.pick h [] (by simp))
  · skip
    refine hc_region ?_
    refine hl_y rfl rfl rfl (y_move rfl rfl) ?_
    refine hl_y rfl rfl rfl (y_lenE (kl.length) rfl rfl S22 rfl (rdF hk) (by first | rfl | simp only [ls_len, ns_len] | (simp only [ls_len, ns_len]; omega))) ?_
    refine hl_y rfl rfl rfl (y_as (y_eqln (q := 32) rfl rfl rfl ) (congrArg Value.bool (decide_eq_false (by omega)))) ?_
    refine hl_y rfl rfl rfl (y_move rfl rfl) ?_
    refine hl_no 3 8 true false rfl rfl rfl rfl rfl rfl ?_
    refine hl_no 3 8 true false rfl rfl rfl rfl rfl rfl ?_
    refine hl_no 3 8 true false rfl rfl rfl rfl rfl rfl ?_
    refine hl_y rfl rfl rfl (y_pick (b := false) rfl rfl rfl) ?_
    refine hl_y rfl rfl rfl (y_assign rfl rfl) ?_
    refine hl_nil ?_
    refine hq_then ?_
    refine hc_ret ?_
    exact hq_ret1 (()) rfl (rv_tmp rfl) rfl (fun _ h => Mm.pick h [] (by simp))

theorem zero_build : ∀ w, (Instr.build 81 #[]).run Tryd.prog w = .ok (.agg (ns vb 16 (fun _ => (0 : UInt8))).toArray) w := fun w => by kernel_rfl
end Go.Proofs.YtcdidapkpfnphaaDoor
