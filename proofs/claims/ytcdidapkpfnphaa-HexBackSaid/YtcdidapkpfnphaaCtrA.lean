/- The counter and single blocks: what each call gives back. -/
import Derived.Test.YtcdidapkpfnphaaAesC
import Derived.Test.YtcdidapkpfnphaaLibI
import Derived.Test.YtcdidapkpfnphaaSpecCtr
namespace Go.Proofs.Ytcdidapkpfnphaa
open Go.RowKit
set_option linter.unusedVariables false
set_option linter.unusedSimpArgs false
theorem ctr_Next_ct (c : Nat → UInt8) (w : World) : Ct0 Try.prog 51 #[.agg (ns vb 16 c).toArray] w (.agg (ns vb 16 (addC c 1)).toArray) := by
  refine ct0_of Try.func51 rfl Try.ntmps51 rfl ?_
  refine hc_seq ?_
  refine hc_region ?_
  refine hl_i rfl rfl rfl (e_boxa rfl rfl) ?_; intro g1
  refine hl_i rfl rfl rfl (e_alloc rfl Z41) ?_; intro g2
  refine hl_nil ?_
  refine hq_then ?_
  refine hc_scope ?_
  refine hc_seq ?_
  refine hc_label ?_
  refine hq_then ?_
  refine hc_seq ?_
  refine hc_seq ?_
  refine hc_region ?_
  refine hl_y rfl rfl rfl (y_assign (v := vi 15) rfl rfl) ?_
  refine hl_nil ?_
  refine hq_then ?_
  refine hc_block ?_
  refine hc_loop (fun k => k ≤ 16 ∧ carry c 1 k = 1) (fun k => 16 - k) (fun k => [(1, .pointer (some ⟨g1, 0, none⟩)), (2, .pointer (some ⟨g2, 0, none⟩)), (3, .int .i64 (15 - (k : Int)))]) (fun k => Mm w [.blk g2 41 (ns vb 16 (fun _ => 0)), .blk g1 41 (ns vb 16 (incS c k))]) (0) ⟨by omega, rfl⟩ ⟨rfl, rfl, lk_int rfl (by omega), trivial⟩ (fun _ h => Mm.set h 1 rfl (ns_ext fun j _ => (if_neg (by omega)).symm)) ?_
  intro k hk
  obtain ⟨hk, hc⟩ := hk
  refine hc_seq ?_
  refine hc_seq ?_
  refine hc_region ?_
  refine hl_y rfl rfl rfl (y_move rfl rfl) ?_
  refine hl_y rfl rfl rfl (y_geqi (q := 0) rfl rfl rfl ) ?_
  refine hl_nil ?_
  refine hq_then ?_
  refine hc_if rfl (fun c0 => ?_) (fun c0 => ?_)
  · replace c0 := of_decide_eq_true c0
    refine HC.sl (s' := [(1, .pointer (some ⟨g1, 0, none⟩)), (2, .pointer (some ⟨g2, 0, none⟩)), (3, vi (15 - k))]) ⟨rfl, rfl, lk_int rfl (by omega), trivial⟩ ?_
    refine hc_skip ?_
    refine hq_then ?_
    refine hc_seq ?_
    refine hc_block ?_
    refine hc_seq ?_
    refine hc_region ?_
    refine hl_y rfl rfl rfl (y_move rfl rfl) ?_
    refine hl_y rfl rfl rfl (y_ixa1 rfl T41 O5 rfl rfl (by omega)) ?_
    refine hl_y rfl rfl rfl (y_ldn 1 rfl O5 rfl rfl (by omega)) ?_
    refine hl_y rfl rfl rfl (y_addb (q := 1) rfl rfl rfl) ?_
    refine hl_y rfl rfl rfl (y_ixa1 rfl T41 O5 rfl rfl (by omega)) ?_
    refine hl_i0 rfl rfl (e_stn 1 rfl O5.2 rfl rfl rfl rfl (by omega)) ?_; intro _
    refine hl_nil ?_
    refine hq_then ?_
    refine hc_seq ?_
    refine hc_region ?_
    refine hl_y rfl rfl rfl (y_move rfl rfl) ?_
    refine hl_y rfl rfl rfl (y_ixa1 rfl T41 O5 rfl rfl (by omega)) ?_
    refine hl_y rfl rfl rfl (y_ldn 1 rfl O5 rfl rfl (by omega)) ?_
    refine hl_y rfl rfl rfl (y_neqb (q := 0) rfl rfl rfl) ?_
    refine hl_nil ?_
    refine hq_then ?_
    refine hc_if rfl (fun c1 => ?_) (fun c1 => ?_)
    · replace c1 := of_decide_eq_true c1
      refine hc_exit ?_
      refine hq_in_other rfl (hq_then_exit (hq_loop_exit (hq_in_same (hq_then ?_))))
      refine hc_seq ?_
      refine hc_region ?_
      refine hl_y rfl rfl rfl (y_ldw 1 rfl T41 rfl rfl) ?_
      refine hl_i0 rfl rfl (e_stw 0 rfl T41.2 rfl rfl rfl (ns_oneb _ _)) ?_; intro _
      refine hl_nil ?_
      refine hq_then ?_
      refine hc_ret ?_
      exact hq_scope_ret (hq_ret1 (()) rfl (rv_arr 0 rfl T41 rfl (ns_len _ _).symm) (agg_ext fun j hj => inc_brk (by omega) hc c1 j hj) (fun _ h => Mm.pick h [] (by simp)))
    · replace c1 := of_decide_eq_false c1
      refine hc_skip ?_
      refine hq_in (hq_then ?_)
      refine hc_region ?_
      refine hl_y rfl rfl rfl (y_move rfl rfl) ?_
      refine hl_y rfl rfl rfl (y_subi (q := 1) rfl rfl rfl (by omega) (by omega)) ?_
      refine hl_y rfl rfl rfl (y_assign rfl rfl) ?_
      refine hl_nil ?_
      exact hq_round (k + 1) (by omega) ⟨by omega, (inc_go (by omega) hc c1).1⟩ ⟨rfl, rfl, lk_int rfl (by omega), trivial⟩ (fun _ h => Mm.set h 1 rfl (ns_ext fun j _ => (inc_go (by omega) hc c1).2 j))
  · replace c0 := of_decide_eq_false c0
    refine hc_exit ?_
    refine hq_then_exit (hq_loop_exit (hq_in_same (hq_then ?_)))
    refine hc_seq ?_
    refine hc_region ?_
    refine hl_y rfl rfl rfl (y_ldw 1 rfl T41 rfl rfl) ?_
    refine hl_i0 rfl rfl (e_stw 0 rfl T41.2 rfl rfl rfl (ns_oneb _ _)) ?_; intro _
    refine hl_nil ?_
    refine hq_then ?_
    refine hc_ret ?_
    exact hq_scope_ret (hq_ret1 (()) rfl (rv_arr 0 rfl T41 rfl (ns_len _ _).symm) (agg_ext fun j hj => if_pos (by omega)) (fun _ h => Mm.pick h [] (by simp)))

theorem r12_Next_ct (c : Nat → UInt8) (w : World) : Ct0 Try.prog 52 #[.agg (ns vb 16 c).toArray] w (.agg (ns vb 16 (addC c 1)).toArray) := by
  refine ct0_of Try.func52 rfl Try.ntmps52 rfl ?_
  refine hc_seq ?_
  refine hc_region ?_
  refine hl_i rfl rfl rfl (e_boxa rfl rfl) ?_; intro g1
  refine hl_i rfl rfl rfl (e_alloc rfl Z41) ?_; intro g2
  refine hl_nil ?_
  refine hq_then ?_
  refine hc_seq ?_
  refine hc_region ?_
  refine hl_y rfl rfl rfl (y_assign (v := vi 15) rfl rfl) ?_
  refine hl_nil ?_
  refine hq_then ?_
  refine hc_seq ?_
  refine hc_block ?_
  refine hc_loop (fun k => k ≤ 15 ∧ carry c 1 k = 1) (fun k => 15 - k) (fun k => [(1, .pointer (some ⟨g1, 0, none⟩)), (2, .pointer (some ⟨g2, 0, none⟩)), (3, vi (15 - k))]) (fun k => Mm w [.blk g2 41 (ns vb 16 (fun _ => 0)), .blk g1 41 (ns vb 16 (incS c k))]) (0) ⟨by omega, rfl⟩ ⟨rfl, rfl, lk_int rfl (by omega), trivial⟩ (fun _ h => Mm.set h 1 rfl (ns_ext fun j _ => (if_neg (by omega)).symm)) ?_
  intro k hk
  obtain ⟨hk, hc⟩ := hk
  refine hc_seq ?_
  refine hc_seq ?_
  rcases Decidable.em (0 < 15 - k) with c0 | c0
  · skip
    rcases Decidable.em (incS c k (15 - k) = 255) with c1 | c1
    · skip
      refine hc_region ?_
      refine hl_y rfl rfl rfl (y_move rfl rfl) ?_
      refine hl_y rfl rfl rfl (y_as (y_gtrn (q := 0) rfl rfl rfl ) (congrArg Value.bool (decide_eq_true (by omega)))) ?_
      refine hl_y rfl rfl rfl (y_move rfl rfl) ?_
      refine hl_yg 2 6 true rfl rfl rfl rfl rfl (y_move rfl rfl) ?_
      refine hl_yg 2 6 true rfl rfl rfl rfl rfl (y_ixa1 rfl T41 O5 rfl rfl (by omega)) ?_
      refine hl_yg 2 6 true rfl rfl rfl rfl rfl (y_ldn 1 rfl O5 rfl rfl (by omega)) ?_
      refine hl_yg 2 6 true rfl rfl rfl rfl rfl (y_as (y_eqlb (q := 255) rfl rfl rfl) (congrArg Value.bool (decide_eq_true (c1)))) ?_
      refine hl_y rfl rfl rfl (y_pick (b := true) rfl rfl rfl) ?_
      refine hl_nil ?_
      refine hq_then ?_
      refine hc_ifT rfl ?_
      refine hc_skip ?_
      refine hq_then ?_
      refine hc_block ?_
      refine hc_seq ?_
      refine hc_region ?_
      refine hl_y rfl rfl rfl (y_move rfl rfl) ?_
      refine hl_y rfl rfl rfl (y_ixa1 rfl T41 O5 rfl rfl (by omega)) ?_
      refine hl_i0 rfl rfl (e_stn (u := 0) 1 rfl O5.2 rfl rfl rfl rfl (by omega)) ?_; intro _
      refine hl_nil ?_
      refine hq_then ?_
      refine hc_region ?_
      refine hl_y rfl rfl rfl (y_move rfl rfl) ?_
      refine hl_y rfl rfl rfl (y_subn (q := 1) rfl rfl rfl (by omega) (by omega)) ?_
      refine hl_y rfl rfl rfl (y_assign rfl rfl) ?_
      refine hl_nil ?_
      refine hq_in (?_)
      exact hq_round (k + 1) (by omega) ⟨by omega, (inc_255 (by omega) hc c1).1⟩ ⟨rfl, rfl, lk_int rfl (by omega), trivial⟩ (fun _ h => Mm.set h 1 rfl (ns_ext fun j _ => (inc_255 (by omega) hc c1).2 j))
    · skip
      refine hc_region ?_
      refine hl_y rfl rfl rfl (y_move rfl rfl) ?_
      refine hl_y rfl rfl rfl (y_as (y_gtrn (q := 0) rfl rfl rfl ) (congrArg Value.bool (decide_eq_true (by omega)))) ?_
      refine hl_y rfl rfl rfl (y_move rfl rfl) ?_
      refine hl_yg 2 6 true rfl rfl rfl rfl rfl (y_move rfl rfl) ?_
      refine hl_yg 2 6 true rfl rfl rfl rfl rfl (y_ixa1 rfl T41 O5 rfl rfl (by omega)) ?_
      refine hl_yg 2 6 true rfl rfl rfl rfl rfl (y_ldn 1 rfl O5 rfl rfl (by omega)) ?_
      refine hl_yg 2 6 true rfl rfl rfl rfl rfl (y_as (y_eqlb (q := 255) rfl rfl rfl) (congrArg Value.bool (decide_eq_false (c1)))) ?_
      refine hl_y rfl rfl rfl (y_pick (b := true) rfl rfl rfl) ?_
      refine hl_nil ?_
      refine hq_then ?_
      refine hc_ifF rfl ?_
      refine hc_exit ?_
      refine hq_then_exit (hq_loop_exit (hq_in_same (hq_then ?_)))
      refine hc_seq ?_
      refine hc_region ?_
      refine hl_y rfl rfl rfl (y_move rfl rfl) ?_
      refine hl_y rfl rfl rfl (y_move rfl rfl) ?_
      refine hl_y rfl rfl rfl (y_ixa1 rfl T41 O5 rfl rfl (by omega)) ?_
      refine hl_y rfl rfl rfl (y_ldn 1 rfl O5 rfl rfl (by omega)) ?_
      refine hl_y rfl rfl rfl (y_addb (q := 1) rfl rfl rfl) ?_
      refine hl_y rfl rfl rfl (y_ixa1 rfl T41 O5 rfl rfl (by omega)) ?_
      refine hl_i0 rfl rfl (e_stn 1 rfl O5.2 rfl rfl rfl rfl (by omega)) ?_; intro _
      refine hl_nil ?_
      refine hq_then ?_
      refine hc_seq ?_
      refine hc_region ?_
      refine hl_y rfl rfl rfl (y_ldw 1 rfl T41 rfl rfl) ?_
      refine hl_i0 rfl rfl (e_stw 0 rfl T41.2 rfl rfl rfl (ns_oneb _ _)) ?_; intro _
      refine hl_nil ?_
      refine hq_then ?_
      refine hc_ret ?_
      exact hq_ret1 (()) rfl (rv_arr 0 rfl T41 rfl (ns_len _ _).symm) (agg_ext fun j hj => inc_end (by omega) hc (.inr c1) j hj) (fun _ h => Mm.pick h [] (by simp))
  · skip
    refine hc_region ?_
    refine hl_y rfl rfl rfl (y_move rfl rfl) ?_
    refine hl_y rfl rfl rfl (y_as (y_gtrn (q := 0) rfl rfl rfl ) (congrArg Value.bool (decide_eq_false (by omega)))) ?_
    refine hl_y rfl rfl rfl (y_move rfl rfl) ?_
    refine hl_no 2 6 true false rfl rfl rfl rfl rfl rfl ?_
    refine hl_no 2 6 true false rfl rfl rfl rfl rfl rfl ?_
    refine hl_no 2 6 true false rfl rfl rfl rfl rfl rfl ?_
    refine hl_no 2 6 true false rfl rfl rfl rfl rfl rfl ?_
    refine hl_y rfl rfl rfl (y_pick (b := false) rfl rfl rfl) ?_
    refine hl_nil ?_
    refine hq_then ?_
    refine hc_ifF rfl ?_
    refine hc_exit ?_
    refine hq_then_exit (hq_loop_exit (hq_in_same (hq_then ?_)))
    refine hc_seq ?_
    refine hc_region ?_
    refine hl_y rfl rfl rfl (y_move rfl rfl) ?_
    refine hl_y rfl rfl rfl (y_move rfl rfl) ?_
    refine hl_y rfl rfl rfl (y_ixa1 rfl T41 O5 rfl rfl (by omega)) ?_
    refine hl_y rfl rfl rfl (y_ldn 1 rfl O5 rfl rfl (by omega)) ?_
    refine hl_y rfl rfl rfl (y_addb (q := 1) rfl rfl rfl) ?_
    refine hl_y rfl rfl rfl (y_ixa1 rfl T41 O5 rfl rfl (by omega)) ?_
    refine hl_i0 rfl rfl (e_stn 1 rfl O5.2 rfl rfl rfl rfl (by omega)) ?_; intro _
    refine hl_nil ?_
    refine hq_then ?_
    refine hc_seq ?_
    refine hc_region ?_
    refine hl_y rfl rfl rfl (y_ldw 1 rfl T41 rfl rfl) ?_
    refine hl_i0 rfl rfl (e_stw 0 rfl T41.2 rfl rfl rfl (ns_oneb _ _)) ?_; intro _
    refine hl_nil ?_
    refine hq_then ?_
    refine hc_ret ?_
    exact hq_ret1 (()) rfl (rv_arr 0 rfl T41 rfl (ns_len _ _).symm) (agg_ext fun j hj => inc_end (by omega) hc (.inl (by omega)) j hj) (fun _ h => Mm.pick h [] (by simp))

theorem r12_counter_ct (l : List UInt8) (v : Value) (n : Nat) (w : World) (hv : Rd w v (ls vb l)) (hl : l.length = 16) (hn : n ≤ 65535) : Ct0 Try.prog 66 #[v, vi n] w (.agg (ns vb 16 (addC (keyF l) n)).toArray) := by
  refine ct0_of Try.func66 rfl Try.ntmps66 rfl ?_
  refine hc_seq ?_
  refine hc_region ?_
  refine hl_i rfl rfl rfl (e_alloc rfl Z41) ?_; intro g4
  refine hl_nil ?_
  refine hq_then ?_
  refine hc_seq ?_
  refine hc_region ?_
  refine hl_i rfl rfl rfl (e_alloc rfl Z41) ?_; intro g5
  refine hl_nil ?_
  refine hq_then ?_
  refine hc_seq ?_
  refine hc_seq ?_
  refine hc_region ?_
  refine hl_y rfl rfl rfl (y_assign (v := vi 0) rfl rfl) ?_
  refine hl_nil ?_
  refine hq_then ?_
  refine hc_block ?_
  refine hc_loop (fun i => i ≤ 16) (fun i => 16 - i) (fun i => [(0, v), (1, vi n), (4, .pointer (some ⟨g4, 0, none⟩)), (5, .pointer (some ⟨g5, 0, none⟩)), (6, vi i)]) (fun i => Mm w [.blk g5 41 (ns vb 16 (fun z => if z < i then keyF l z else 0)), .blk g4 41 (ns vb 16 (fun _ => 0))]) (0) (by omega) ⟨rfl, lk_int rfl (by omega), rfl, rfl, lk_int rfl (by omega), trivial⟩ (fun _ h => Mm.mm h (by simp)) ?_
  intro i hi
  refine hc_seq ?_
  refine hc_seq ?_
  refine hc_region ?_
  refine hl_y rfl rfl rfl (y_move rfl rfl) ?_
  refine hl_y rfl rfl rfl (y_lssn (q := 16) rfl rfl rfl ) ?_
  refine hl_nil ?_
  refine hq_then ?_
  refine hc_if rfl (fun c0 => ?_) (fun c0 => ?_)
  · replace c0 := of_decide_eq_true c0
    refine hc_skip ?_
    refine hq_then ?_
    refine hc_seq ?_
    refine hc_block ?_
    refine hc_region ?_
    refine hl_y rfl rfl rfl (y_move rfl rfl) ?_
    refine hl_y rfl rfl rfl (y_move rfl rfl) ?_
    refine hl_y rfl rfl rfl (y_move rfl rfl) ?_
    refine hl_y rfl rfl rfl (y_ixs rfl S22 rfl (rdF hv) rfl (by first | omega | (simp only [ls_len, ns_len]; omega) | (simp only [List.length_take, List.length_drop, ls_len, ns_len]; omega))) ?_
    refine hl_y rfl rfl rfl (y_ldb rfl O5 rfl (rdF hv) (by omega)) ?_
    refine hl_y rfl rfl rfl (y_ixa1 rfl T41 O5 rfl rfl (by omega)) ?_
    refine hl_i0 rfl rfl (e_stn 0 rfl O5.2 rfl rfl rfl rfl (by omega)) ?_; intro _
    refine hl_nil ?_
    refine hq_in (hq_then ?_)
    refine hc_region ?_
    refine hl_y rfl rfl rfl (y_move rfl rfl) ?_
    refine hl_y rfl rfl rfl (y_addn (q := 1) rfl rfl rfl (by omega)) ?_
    refine hl_y rfl rfl rfl (y_assign rfl rfl) ?_
    refine hl_nil ?_
    exact hq_round (i + 1) (by omega) (by omega) ⟨rfl, lk_int rfl (by omega), rfl, rfl, lk_int rfl (by omega), trivial⟩ (fun _ h => Mm.set h 0 rfl (ns_step (f := keyF l) (g := fun _ => 0) rfl))
  · replace c0 := of_decide_eq_false c0
    refine hc_exit ?_
    refine hq_then_exit (hq_loop_exit (hq_in_same (hq_then ?_)))
    refine hc_seq ?_
    refine hc_region ?_
    refine hl_y rfl rfl rfl (y_move rfl rfl) ?_
    refine hl_y rfl rfl rfl (y_assign rfl rfl) ?_
    refine hl_nil ?_
    refine hq_then ?_
    refine hc_seq ?_
    refine hc_seq ?_
    refine hc_region ?_
    refine hl_y rfl rfl rfl (y_assign (v := vi 15) rfl rfl) ?_
    refine hl_nil ?_
    refine hq_then ?_
    refine hc_block ?_
    refine hc_loop (fun k => k ≤ 16) (fun k => 16 - k) (fun k => [(4, .pointer (some ⟨g4, 0, none⟩)), (5, .pointer (some ⟨g5, 0, none⟩)), (7, vi (carry (keyF l) n k)), (8, .int .i64 (15 - (k : Int)))]) (fun k => Mm w [.blk g5 41 (ns vb 16 (cntS (keyF l) n k)), .blk g4 41 (ns vb 16 (fun _ => 0))]) (0) (by omega) ⟨rfl, rfl, rfl, lk_int rfl (by omega), trivial⟩ (fun _ h => Mm.set h 0 rfl (ns_ext fun j _ => (if_pos (by omega)).trans (if_neg (by omega)).symm)) ?_
    intro k hk
    refine hc_seq ?_
    refine hc_seq ?_
    refine hc_region ?_
    refine hl_y rfl rfl rfl (y_move rfl rfl) ?_
    refine hl_y rfl rfl rfl (y_geqi (q := 0) rfl rfl rfl ) ?_
    refine hl_nil ?_
    refine hq_then ?_
    refine hc_if rfl (fun c1 => ?_) (fun c1 => ?_)
    · replace c1 := of_decide_eq_true c1
      refine HC.sl (s' := [(4, .pointer (some ⟨g4, 0, none⟩)), (5, .pointer (some ⟨g5, 0, none⟩)), (7, vi (carry (keyF l) n k)), (8, vi (15 - k))]) ⟨rfl, rfl, rfl, lk_int rfl (by omega), trivial⟩ ?_
      refine hc_skip ?_
      refine hq_then ?_
      refine hc_seq ?_
      refine hc_block ?_
      refine hc_seq ?_
      refine hc_region ?_
      refine hl_y rfl rfl rfl (y_move rfl rfl) ?_
      refine hl_y rfl rfl rfl (y_move rfl rfl) ?_
      refine hl_y rfl rfl rfl (y_ixa1 rfl T41 O5 rfl rfl (by omega)) ?_
      refine hl_y rfl rfl rfl (y_ldn 0 rfl O5 rfl rfl (by omega)) ?_
      refine hl_y rfl rfl rfl (y_conv rfl U5 U3 rfl (conv_bi _)) ?_
      refine hl_y rfl rfl rfl (y_addn rfl rfl rfl (by have := UInt8.toNat_lt (cntS (keyF l) n k (15 - k)); have := carry_le (c := keyF l) (n := n) (by omega) k; omega)) ?_
      refine hl_y rfl rfl rfl (y_assign rfl rfl) ?_
      refine hl_nil ?_
      refine hq_then ?_
      refine hc_seq ?_
      refine hc_region ?_
      refine hl_y rfl rfl rfl (y_move rfl rfl) ?_
      refine hl_y rfl rfl rfl (y_move rfl rfl) ?_
      refine hl_y rfl rfl rfl (y_remn (q := 256) rfl rfl rfl (by omega)) ?_
      refine hl_y rfl rfl rfl (y_conv rfl U3 U5 rfl (wrap_nb _)) ?_
      refine hl_y rfl rfl rfl (y_ixa1 rfl T41 O5 rfl rfl (by omega)) ?_
      refine hl_i0 rfl rfl (e_stn 0 rfl O5.2 rfl rfl rfl rfl (by omega)) ?_; intro _
      refine hl_nil ?_
      refine hq_then ?_
      refine hc_region ?_
      refine hl_y rfl rfl rfl (y_move rfl rfl) ?_
      refine hl_y rfl rfl rfl (y_quon (q := 256) rfl rfl rfl (by omega) (by have := UInt8.toNat_lt (cntS (keyF l) n k (15 - k)); have := carry_le (c := keyF l) (n := n) (by omega) k; omega)) ?_
      refine hl_y rfl rfl rfl (y_assign rfl rfl) ?_
      refine hl_nil ?_
      refine hq_in (hq_then ?_)
      refine hc_region ?_
      refine hl_y rfl rfl rfl (y_move rfl rfl) ?_
      refine hl_y rfl rfl rfl (y_subi (q := 1) rfl rfl rfl (by omega) (by omega)) ?_
      refine hl_y rfl rfl rfl (y_assign rfl rfl) ?_
      refine hl_nil ?_
      exact hq_round (k + 1) (by omega) (by omega) ⟨rfl, rfl, lk_int rfl (congrArg Int.ofNat (cnt_carry (by omega))), lk_int rfl (by omega), trivial⟩ (fun _ h => Mm.set h 0 rfl (ns_ext fun j _ => cnt_step (by omega) j))
    · replace c1 := of_decide_eq_false c1
      refine hc_exit ?_
      refine hq_then_exit (hq_loop_exit (hq_in_same (hq_then ?_)))
      refine hc_seq ?_
      refine hc_region ?_
      refine hl_y rfl rfl rfl (y_ldw 0 rfl T41 rfl rfl) ?_
      refine hl_i0 rfl rfl (e_stw 1 rfl T41.2 rfl rfl rfl (ns_oneb _ _)) ?_; intro _
      refine hl_nil ?_
      refine hq_then ?_
      refine hc_ret ?_
      exact hq_ret1 (()) rfl (rv_arr 1 rfl T41 rfl (ns_len _ _).symm) (agg_ext fun j hj => if_pos (by omega)) (fun _ h => Mm.pick h [] (by simp))

theorem ctr_begun_ct (kl nl : List UInt8) (kv nv : Value)  (w : World) (hk : Rd w kv (ls vb kl)) (hn : Rd w nv (ls vb nl)) : Ct0 Try.prog 64 #[kv, nv] w (.tuple #[.agg (ns vb 240 (begK kl nl)).toArray, .agg (ns vb 16 (begC nl)).toArray, vi (begF kl nl)]) := by
  refine ct0_of Try.func64 rfl Try.ntmps64 rfl ?_
  refine hc_seq ?_
  refine hc_region ?_
  refine hl_i rfl rfl rfl (e_alloc rfl Z46) ?_; intro g4
  refine hl_i rfl rfl rfl (e_alloc rfl Z41) ?_; intro g5
  refine hl_y rfl rfl rfl (y_assign (v := vi 0) rfl rfl) ?_
  refine hl_nil ?_
  refine hq_then ?_
  refine hc_seq ?_
  refine hc_seq ?_
  refine hc_region ?_
  refine hl_y rfl rfl rfl (y_move rfl rfl) ?_
  refine hl_y rfl rfl rfl (y_lenE (nl.length) rfl rfl S22 rfl (rdF hn) (by first | rfl | simp only [ls_len, ns_len] | (simp only [ls_len, ns_len]; omega))) ?_
  refine hl_y rfl rfl rfl (y_neqn (q := 16) rfl rfl rfl ) ?_
  refine hl_nil ?_
  refine hq_then ?_
  refine hc_if rfl (fun c0 => ?_) (fun c0 => ?_)
  · replace c0 := of_decide_eq_true c0
    refine hc_seq ?_
    refine hc_drawP [0, 1] follows_mixed ?_
    refine hh_y 0 rfl rfl rfl rfl (by kernel_rfl) (by kernel_rfl) (by kernel_rfl) (fun _ h => Mm.pick h [0, 1] (by decide)) (y_ldw 1 rfl T46 rfl rfl) ?_
    refine hh_y 1 rfl rfl rfl rfl (by kernel_rfl) (by kernel_rfl) (by kernel_rfl) (fun _ h => Mm.pick h [0, 1] (by decide)) (y_ldw 0 rfl T41 rfl rfl) ?_
    refine hh_i0 2 rfl rfl rfl (by kernel_rfl) (e_stw 1 rfl T46.2 rfl rfl rfl (ns_oneb _ _)) (fun _ _ h => Mm.pick h [0, 1] (by decide)) ?_; intro _
    refine hh_i0 3 rfl rfl rfl (by kernel_rfl) (e_stw 0 rfl T41.2 rfl rfl rfl (ns_oneb _ _)) (fun _ _ h => Mm.pick h [0, 1] (by decide)) ?_; intro _
    refine hh_y 4 rfl rfl rfl rfl (by kernel_rfl) (by kernel_rfl) (by kernel_rfl) (fun _ h => Mm.pick h [0, 1] (by decide)) (y_assign (v := vi 4) rfl rfl) ?_
    refine hh_done (by kernel_rfl) ?_
    refine hq_then ?_
    refine hc_ret ?_
    exact hq_then_ret (hq_ret3 (()) rfl (rv_arr 1 rfl T46 rfl (ns_len _ _).symm) (rv_arr 0 rfl T41 rfl (ns_len _ _).symm) (rv_tmp rfl) (by rw [begK, begC, begF, if_neg (by omega), if_neg (by omega), if_neg (by omega)]) (fun _ h => Mm.pick h [] (by simp)))
  · replace c0 := of_decide_eq_false c0
    refine hc_skip ?_
    refine hq_then ?_
    refine hc_seq ?_
    refine hc_region ?_
    refine hl_y rfl rfl rfl (y_move rfl rfl) ?_
    refine hl_i rfl rfl rfl (e_call0 rfl F42 rfl (fun w hw => aes_Schedule_ct _ _ w ((rdF hk) w hw)) rfl) ?_; intro _
    refine hl_y rfl rfl rfl (y_move rfl rfl) ?_
    refine hl_y rfl rfl rfl (y_extract rfl rfl rfl) ?_
    refine hl_y rfl rfl rfl (y_extract rfl rfl rfl) ?_
    refine hl_i0 rfl rfl (e_stw 1 rfl T46.2 rfl rfl rfl (ns_oneb _ _)) ?_; intro _
    refine hl_y rfl rfl rfl (y_assign rfl rfl) ?_
    refine hl_nil ?_
    refine hq_then ?_
    refine hc_seq ?_
    refine hc_region ?_
    refine hl_y rfl rfl rfl (y_slcaw rfl T41 O5 rfl (by omega)) ?_
    refine hl_y rfl rfl rfl (y_move rfl rfl) ?_
    refine hl_i rfl rfl rfl (e_cpn 0 rfl S22 rfl rfl rfl ((RdM.as (rdF hn) (ls_fnl (n := 16) (by omega)))) (by omega) (by omega)) ?_; intro _
    refine HL.mem (fun _ h => Mm.set h 0 rfl (ns_ext fun i hi => if_pos ⟨by omega, by omega⟩)) ?_
    refine hl_nil ?_
    refine hq_then ?_
    refine hc_seq ?_
    refine hc_drawP [0, 1] follows_mixed ?_
    refine hh_y 0 rfl rfl rfl rfl (by kernel_rfl) (by kernel_rfl) (by kernel_rfl) (fun _ h => Mm.pick h [0, 1] (by decide)) (y_ldw 1 rfl T46 rfl rfl) ?_
    refine hh_y 1 rfl rfl rfl rfl (by kernel_rfl) (by kernel_rfl) (by kernel_rfl) (fun _ h => Mm.pick h [0, 1] (by decide)) (y_ldw 0 rfl T41 rfl rfl) ?_
    refine hh_y 2 rfl rfl rfl rfl (by kernel_rfl) (by kernel_rfl) (by kernel_rfl) (fun _ h => Mm.pick h [0, 1] (by decide)) (y_move rfl rfl) ?_
    refine hh_i0 3 rfl rfl rfl (by kernel_rfl) (e_stw 1 rfl T46.2 rfl rfl rfl (ns_oneb _ _)) (fun _ _ h => Mm.pick h [0, 1] (by decide)) ?_; intro _
    refine hh_i0 4 rfl rfl rfl (by kernel_rfl) (e_stw 0 rfl T41.2 rfl rfl rfl (ns_oneb _ _)) (fun _ _ h => Mm.pick h [0, 1] (by decide)) ?_; intro _
    refine hh_y 5 rfl rfl rfl rfl (by kernel_rfl) (by kernel_rfl) (by kernel_rfl) (fun _ h => Mm.pick h [0, 1] (by decide)) (y_assign rfl rfl) ?_
    refine hh_done (by kernel_rfl) ?_
    refine hq_then ?_
    refine hc_ret ?_
    exact hq_ret3 (()) rfl (rv_arr 1 rfl T46 rfl (ns_len _ _).symm) (rv_arr 0 rfl T41 rfl (ns_len _ _).symm) (rv_tmp rfl) (by rw [begK, begC, begF, if_pos (by omega), if_pos (by omega), if_pos (by omega)]; rfl) (fun _ h => Mm.pick h [] (by simp))

theorem r12_Right_t (kl nl : List UInt8) (kv nv : Value)  (w : World) (hk : Rd w kv (ls vb kl)) (hn : Rd w nv (ls vb nl)) (h : okR kl nl) : Ct0 Try.prog 65 #[kv, nv] w (.bool true) := by
  obtain ⟨h1, h2⟩ := h
  refine ct0_of Try.func65 rfl Try.ntmps65 rfl ?_
  refine hc_seq ?_
  refine hc_region ?_
  refine hl_y rfl rfl rfl (y_assign rfl rfl) ?_
  refine hl_nil ?_
  refine hq_then ?_
  refine hc_seq ?_
  refine hc_region ?_
  refine hl_y rfl rfl rfl (y_move rfl rfl) ?_
  refine hl_y rfl rfl rfl (y_lenE (kl.length) rfl rfl S22 rfl (rdF hk) (by first | rfl | simp only [ls_len, ns_len] | (simp only [ls_len, ns_len]; omega))) ?_
  refine hl_y rfl rfl rfl (y_as (y_eqln (q := 32) rfl rfl rfl ) (congrArg Value.bool (decide_eq_true (by omega)))) ?_
  refine hl_y rfl rfl rfl (y_move rfl rfl) ?_
  refine hl_yg 3 8 true rfl rfl rfl rfl rfl (y_move rfl rfl) ?_
  refine hl_yg 3 8 true rfl rfl rfl rfl rfl (y_lenE (nl.length) rfl rfl S22 rfl (rdF hn) (by first | rfl | simp only [ls_len, ns_len] | (simp only [ls_len, ns_len]; omega))) ?_
  refine hl_yg 3 8 true rfl rfl rfl rfl rfl (y_as (y_eqln (q := 16) rfl rfl rfl ) (congrArg Value.bool (decide_eq_true (by omega)))) ?_
  refine hl_y rfl rfl rfl (y_pick (b := true) rfl rfl rfl) ?_
  refine hl_y rfl rfl rfl (y_assign rfl rfl) ?_
  refine hl_nil ?_
  refine hq_then ?_
  refine hc_ret ?_
  exact hq_ret1 (()) rfl (rv_tmp rfl) rfl (fun _ h => Mm.pick h [] (by simp))

theorem r12_Right_f (kl nl : List UInt8) (kv nv : Value)  (w : World) (hk : Rd w kv (ls vb kl)) (hn : Rd w nv (ls vb nl)) (h : ¬ okR kl nl) : Ct0 Try.prog 65 #[kv, nv] w (.bool false) := by
  refine ct0_of Try.func65 rfl Try.ntmps65 rfl ?_
  refine hc_seq ?_
  refine hc_region ?_
  refine hl_y rfl rfl rfl (y_assign rfl rfl) ?_
  refine hl_nil ?_
  refine hq_then ?_
  refine hc_seq ?_
  rcases Decidable.em (kl.length = 32) with c0 | c0
  · skip
    refine hc_region ?_
    refine hl_y rfl rfl rfl (y_move rfl rfl) ?_
    refine hl_y rfl rfl rfl (y_lenE (kl.length) rfl rfl S22 rfl (rdF hk) (by first | rfl | simp only [ls_len, ns_len] | (simp only [ls_len, ns_len]; omega))) ?_
    refine hl_y rfl rfl rfl (y_as (y_eqln (q := 32) rfl rfl rfl ) (congrArg Value.bool (decide_eq_true (by omega)))) ?_
    refine hl_y rfl rfl rfl (y_move rfl rfl) ?_
    refine hl_yg 3 8 true rfl rfl rfl rfl rfl (y_move rfl rfl) ?_
    refine hl_yg 3 8 true rfl rfl rfl rfl rfl (y_lenE (nl.length) rfl rfl S22 rfl (rdF hn) (by first | rfl | simp only [ls_len, ns_len] | (simp only [ls_len, ns_len]; omega))) ?_
    refine hl_yg 3 8 true rfl rfl rfl rfl rfl (y_as (y_eqln (q := 16) rfl rfl rfl ) (congrArg Value.bool (decide_eq_false (fun h2 => h ⟨c0, h2⟩)))) ?_
    refine hl_y rfl rfl rfl (y_pick (b := true) rfl rfl rfl) ?_
    refine hl_y rfl rfl rfl (y_assign rfl rfl) ?_
    refine hl_nil ?_
    refine hq_then ?_
    refine hc_ret ?_
    exact hq_ret1 (()) rfl (rv_tmp rfl) rfl (fun _ h => Mm.pick h [] (by simp))
  · skip
    refine hc_region ?_
    refine hl_y rfl rfl rfl (y_move rfl rfl) ?_
    refine hl_y rfl rfl rfl (y_lenE (kl.length) rfl rfl S22 rfl (rdF hk) (by first | rfl | simp only [ls_len, ns_len] | (simp only [ls_len, ns_len]; omega))) ?_
    refine hl_y rfl rfl rfl (y_as (y_eqln (q := 32) rfl rfl rfl ) (congrArg Value.bool (decide_eq_false (by omega)))) ?_
    refine hl_y rfl rfl rfl (y_move rfl rfl) ?_
    refine hl_no 3 8 true false rfl rfl rfl rfl rfl rfl ?_
    refine hl_no 3 8 true false rfl rfl rfl rfl rfl rfl ?_
    refine hl_no 3 8 true false rfl rfl rfl rfl rfl rfl ?_
    refine hl_y rfl rfl rfl (y_pick (b := false) rfl rfl rfl) ?_
    refine hl_y rfl rfl rfl (y_assign rfl rfl) ?_
    refine hl_nil ?_
    refine hq_then ?_
    refine hc_ret ?_
    exact hq_ret1 (()) rfl (rv_tmp rfl) rfl (fun _ h => Mm.pick h [] (by simp))

theorem ctr_At_ct (kl nl : List UInt8) (kv nv : Value) (n : Nat) (hb : n ≤ 9223372036854775807) (w : World) (hk : Rd w kv (ls vb kl)) (hn : Rd w nv (ls vb nl)) : Ct0 Try.prog 47 #[kv, nv, vi n] w (.tuple #[.agg (ns vb 16 (atV kl nl n)).toArray, vi (atF kl nl n)]) := by
  refine ct0_of Try.func47 rfl Try.ntmps47 rfl ?_
  refine hc_seq ?_
  refine hc_region ?_
  refine hl_i rfl rfl rfl (e_alloc rfl Z41) ?_; intro g6
  refine hl_y rfl rfl rfl (y_assign (v := vi 0) rfl rfl) ?_
  refine hl_nil ?_
  refine hq_then ?_
  refine hc_seq ?_
  refine hc_region ?_
  refine hl_y rfl rfl rfl (y_move rfl rfl) ?_
  refine hl_y rfl rfl rfl (y_move rfl rfl) ?_
  refine hl_i rfl rfl rfl (e_call0 rfl F64 rfl (fun w hw => ctr_begun_ct _ _ _ _ w ((rdF hk) w hw) ((rdF hn) w hw)) rfl) ?_; intro _
  refine hl_y rfl rfl rfl (y_move rfl rfl) ?_
  refine hl_y rfl rfl rfl (y_extract rfl rfl rfl) ?_
  refine hl_y rfl rfl rfl (y_extract rfl rfl rfl) ?_
  refine hl_y rfl rfl rfl (y_extract rfl rfl rfl) ?_
  refine hl_i rfl rfl rfl (e_alloc rfl Z46) ?_; intro g8
  refine hl_i rfl rfl rfl (e_alloc rfl Z41) ?_; intro g9
  refine hl_i0 rfl rfl (e_stw 1 rfl T46.2 rfl rfl rfl (ns_oneb _ _)) ?_; intro _
  refine hl_i0 rfl rfl (e_stw 0 rfl T41.2 rfl rfl rfl (ns_oneb _ _)) ?_; intro _
  refine hl_y rfl rfl rfl (y_assign rfl rfl) ?_
  refine hl_nil ?_
  refine hq_then ?_
  refine hc_seq ?_
  refine hc_block ?_
  refine hc_seq ?_
  refine hc_region ?_
  refine hl_y rfl rfl rfl (y_move rfl rfl) ?_
  refine hl_y rfl rfl rfl (y_neqn (q := 0) rfl rfl rfl ) ?_
  refine hl_y rfl rfl rfl (y_assign rfl rfl) ?_
  refine hl_nil ?_
  refine hq_then ?_
  refine hc_if rfl (fun c0 => ?_) (fun c0 => ?_)
  · replace c0 := of_decide_eq_true c0
    refine hc_seq ?_
    refine hc_region ?_
    refine hl_y rfl rfl rfl (y_ldw 2 rfl T41 rfl rfl) ?_
    refine hl_y rfl rfl rfl (y_move rfl rfl) ?_
    refine hl_i0 rfl rfl (e_stw 2 rfl T41.2 rfl rfl rfl (ns_oneb _ _)) ?_; intro _
    refine hl_y rfl rfl rfl (y_assign rfl rfl) ?_
    refine hl_nil ?_
    refine hq_then ?_
    refine hc_ret ?_
    exact hq_in_ret (hq_then_ret (hq_ret2 (()) rfl (rv_arr 2 rfl T41 rfl (ns_len _ _).symm) (rv_tmp rfl) (by rw [atV, atF, if_neg (by omega), if_neg (by omega)]; try rfl) (fun _ h => Mm.pick h [] (by simp))))
  · replace c0 := of_decide_eq_false c0
    refine hc_seq ?_
    refine hc_region ?_
    refine hl_y rfl rfl rfl (y_move rfl rfl) ?_
    refine hl_y rfl rfl rfl (y_as (y_lssn (q := 0) rfl rfl rfl ) (congrArg Value.bool (decide_eq_false (by omega)))) ?_
    refine hl_y rfl rfl rfl (y_move rfl rfl) ?_
    refine hl_yg 2 25 false rfl rfl rfl rfl rfl (y_move rfl rfl) ?_
    refine hl_yg 2 25 false rfl rfl rfl rfl rfl (y_geqn (q := 65536) rfl rfl rfl ) ?_
    refine hl_y rfl rfl rfl (y_pick (b := false) rfl rfl rfl) ?_
    refine hl_y rfl rfl rfl (y_assign rfl rfl) ?_
    refine hl_nil ?_
    refine hq_then ?_
    refine hc_if rfl (fun c1 => ?_) (fun c1 => ?_)
    · replace c1 := of_decide_eq_true c1
      refine hc_seq ?_
      refine hc_region ?_
      refine hl_y rfl rfl rfl (y_ldw 2 rfl T41 rfl rfl) ?_
      refine hl_i0 rfl rfl (e_stw 2 rfl T41.2 rfl rfl rfl (ns_oneb _ _)) ?_; intro _
      refine hl_y rfl rfl rfl (y_assign (v := vi 2) rfl rfl) ?_
      refine hl_nil ?_
      refine hq_then ?_
      refine hc_ret ?_
      exact hq_in_ret (hq_then_ret (hq_ret2 (()) rfl (rv_arr 2 rfl T41 rfl (ns_len _ _).symm) (rv_tmp rfl) (by rw [atV, atF, if_neg (by omega), if_pos (by omega), if_neg (by omega)]; try rfl) (fun _ h => Mm.pick h [] (by simp))))
    · replace c1 := of_decide_eq_false c1
      refine hc_skip ?_
      refine hq_in (hq_then ?_)
      refine hc_seq ?_
      refine hc_seq ?_
      refine hc_region ?_
      refine hl_y rfl rfl rfl (y_move rfl rfl) ?_
      refine hl_y rfl rfl rfl (y_move (v := vi 0) rfl rfl) ?_
      refine hl_nil ?_
      refine hq_then ?_
      refine hc_block ?_
      refine hc_loop (fun k => k ≤ n) (fun k => n - k) (fun k => [(6, .pointer (some ⟨g6, 0, none⟩)), (8, .pointer (some ⟨g8, 0, none⟩)), (9, .pointer (some ⟨g9, 0, none⟩)), (30, vi n), (31, vi k)]) (fun k => Mm w [.blk g9 41 (ns vb 16 (addC (begC nl) k)), .blk g8 46 (ns vb 240 (begK kl nl)), .blk g6 41 (ns vb 16 (fun _ => 0))]) (0) (by omega) ⟨rfl, rfl, rfl, lk_int rfl (by omega), lk_int rfl (by omega), trivial⟩ (fun _ h => Mm.set h 0 rfl (by rw [addC_zero])) ?_
      intro k hkn
      refine hc_seq ?_
      refine hc_region ?_
      refine hl_y rfl rfl rfl (y_lssn rfl rfl rfl ) ?_
      refine hl_nil ?_
      refine hq_then ?_
      refine hc_seq ?_
      refine hc_if rfl (fun c2 => ?_) (fun c2 => ?_)
      · replace c2 := of_decide_eq_true c2
        refine hc_skip ?_
        refine hq_then ?_
        refine hc_seq ?_
        refine hc_block ?_
        refine hc_region ?_
        refine hl_y rfl rfl rfl (y_ldw 0 rfl T41 rfl rfl) ?_
        refine hl_i rfl rfl rfl (e_call0 rfl F51 rfl (fun w hw => ctr_Next_ct _ w) rfl) ?_; intro _
        refine hl_i0 rfl rfl (e_stw 0 rfl T41.2 rfl rfl rfl (ns_oneb _ _)) ?_; intro _
        refine hl_nil ?_
        refine hq_in (hq_then ?_)
        refine hc_region ?_
        refine hl_y rfl rfl rfl (y_addn (q := 1) rfl rfl rfl (by omega)) ?_
        refine hl_y rfl rfl rfl (y_move rfl rfl) ?_
        refine hl_nil ?_
        exact hq_round (k + 1) (by omega) (by omega) ⟨rfl, rfl, rfl, lk_int rfl (by omega), lk_int rfl (by omega), trivial⟩ (fun _ h => Mm.set h 0 rfl (by rw [addC_next]))
      · replace c2 := of_decide_eq_false c2
        refine hc_exit ?_
        refine hq_then_exit (hq_loop_exit (hq_in_same (hq_then ?_)))
        refine hc_seq ?_
        refine hc_region ?_
        refine hl_y rfl rfl rfl (y_ldw 1 rfl T46 rfl rfl) ?_
        refine hl_y rfl rfl rfl (y_ldw 0 rfl T41 rfl rfl) ?_
        refine hl_i rfl rfl rfl (e_call0 rfl F44 rfl (fun w hw => aes_Encrypt_ct _ _ w) rfl) ?_; intro _
        refine hl_i0 rfl rfl (e_stw 2 rfl T41.2 rfl rfl rfl (ns_oneb _ _)) ?_; intro _
        refine hl_y rfl rfl rfl (y_assign (v := vi 0) rfl rfl) ?_
        refine hl_nil ?_
        refine hq_then ?_
        refine hc_ret ?_
        exact hq_ret2 (()) rfl (rv_arr 2 rfl T41 rfl (ns_len _ _).symm) (rv_tmp rfl) (by rw [atV, atF, if_pos (by omega), if_pos (by omega), if_pos (by omega), show k = n from by omega]; try rfl) (fun _ h => Mm.pick h [] (by simp))

theorem ctr_At_neg (kl nl : List UInt8) (kv nv : Value) (n : Int) (hb : -9223372036854775808 ≤ n) (hn0 : n < 0) (w : World) (hk : Rd w kv (ls vb kl)) (hn : Rd w nv (ls vb nl)) : Ct0 Try.prog 47 #[kv, nv, .int .i64 n] w (.tuple #[.agg (ns vb 16 (fun _ => 0)).toArray, vi (atFn kl nl)]) := by
  refine ct0_of Try.func47 rfl Try.ntmps47 rfl ?_
  refine hc_seq ?_
  refine hc_region ?_
  refine hl_i rfl rfl rfl (e_alloc rfl Z41) ?_; intro g6
  refine hl_y rfl rfl rfl (y_assign (v := vi 0) rfl rfl) ?_
  refine hl_nil ?_
  refine hq_then ?_
  refine hc_seq ?_
  refine hc_region ?_
  refine hl_y rfl rfl rfl (y_move rfl rfl) ?_
  refine hl_y rfl rfl rfl (y_move rfl rfl) ?_
  refine hl_i rfl rfl rfl (e_call0 rfl F64 rfl (fun w hw => ctr_begun_ct _ _ _ _ w ((rdF hk) w hw) ((rdF hn) w hw)) rfl) ?_; intro _
  refine hl_y rfl rfl rfl (y_move rfl rfl) ?_
  refine hl_y rfl rfl rfl (y_extract rfl rfl rfl) ?_
  refine hl_y rfl rfl rfl (y_extract rfl rfl rfl) ?_
  refine hl_y rfl rfl rfl (y_extract rfl rfl rfl) ?_
  refine hl_i rfl rfl rfl (e_alloc rfl Z46) ?_; intro g8
  refine hl_i rfl rfl rfl (e_alloc rfl Z41) ?_; intro g9
  refine hl_i0 rfl rfl (e_stw 1 rfl T46.2 rfl rfl rfl (ns_oneb _ _)) ?_; intro _
  refine hl_i0 rfl rfl (e_stw 0 rfl T41.2 rfl rfl rfl (ns_oneb _ _)) ?_; intro _
  refine hl_y rfl rfl rfl (y_assign rfl rfl) ?_
  refine hl_nil ?_
  refine hq_then ?_
  refine hc_seq ?_
  refine hc_block ?_
  refine hc_seq ?_
  refine hc_region ?_
  refine hl_y rfl rfl rfl (y_move rfl rfl) ?_
  refine hl_y rfl rfl rfl (y_neqn (q := 0) rfl rfl rfl ) ?_
  refine hl_y rfl rfl rfl (y_assign rfl rfl) ?_
  refine hl_nil ?_
  refine hq_then ?_
  refine hc_if rfl (fun c0 => ?_) (fun c0 => ?_)
  · replace c0 := of_decide_eq_true c0
    refine hc_seq ?_
    refine hc_region ?_
    refine hl_y rfl rfl rfl (y_ldw 2 rfl T41 rfl rfl) ?_
    refine hl_y rfl rfl rfl (y_move rfl rfl) ?_
    refine hl_i0 rfl rfl (e_stw 2 rfl T41.2 rfl rfl rfl (ns_oneb _ _)) ?_; intro _
    refine hl_y rfl rfl rfl (y_assign rfl rfl) ?_
    refine hl_nil ?_
    refine hq_then ?_
    refine hc_ret ?_
    exact hq_in_ret (hq_then_ret (hq_ret2 (()) rfl (rv_arr 2 rfl T41 rfl (ns_len _ _).symm) (rv_tmp rfl) (by rw [atFn, if_neg (by omega)]; try rfl) (fun _ h => Mm.pick h [] (by simp))))
  · replace c0 := of_decide_eq_false c0
    refine hc_seq ?_
    refine hc_region ?_
    refine hl_y rfl rfl rfl (y_move rfl rfl) ?_
    refine hl_y rfl rfl rfl (y_as (y_lssi (q := 0) rfl rfl rfl ) (congrArg Value.bool (decide_eq_true (by omega)))) ?_
    refine hl_y rfl rfl rfl (y_move rfl rfl) ?_
    refine hl_no 2 25 false true rfl rfl rfl rfl rfl rfl ?_
    refine hl_no 2 25 false true rfl rfl rfl rfl rfl rfl ?_
    refine hl_y rfl rfl rfl (y_pick (b := true) rfl rfl rfl) ?_
    refine hl_y rfl rfl rfl (y_assign rfl rfl) ?_
    refine hl_nil ?_
    refine hq_then ?_
    refine hc_ifT rfl ?_
    refine hc_seq ?_
    refine hc_region ?_
    refine hl_y rfl rfl rfl (y_ldw 2 rfl T41 rfl rfl) ?_
    refine hl_i0 rfl rfl (e_stw 2 rfl T41.2 rfl rfl rfl (ns_oneb _ _)) ?_; intro _
    refine hl_y rfl rfl rfl (y_assign (v := vi 2) rfl rfl) ?_
    refine hl_nil ?_
    refine hq_then ?_
    refine hc_ret ?_
    exact hq_in_ret (hq_then_ret (hq_ret2 (()) rfl (rv_arr 2 rfl T41 rfl (ns_len _ _).symm) (rv_tmp rfl) (by rw [atFn, if_pos (by omega)]; try rfl) (fun _ h => Mm.pick h [] (by simp))))

theorem zero_build : ∀ w, (Instr.build 41 #[]).run Try.prog w = .ok (.agg (ns vb 16 (fun _ => (0 : UInt8))).toArray) w := fun w => by kernel_rfl
theorem r12_At_ct (kl nl : List UInt8) (kv nv : Value) (n : Nat) (hb : n ≤ 9223372036854775807) (w : World) (hk : Rd w kv (ls vb kl)) (hn : Rd w nv (ls vb nl)) : Ct0 Try.prog 48 #[kv, nv, vi n] w (.tuple #[.agg (ns vb 16 (atVR kl nl n)).toArray, vi (atFR kl nl n)]) := by
  refine ct0_of Try.func48 rfl Try.ntmps48 rfl ?_
  refine hc_seq ?_
  refine hc_region ?_
  refine hl_i rfl rfl rfl (e_alloc rfl Z41) ?_; intro g6
  refine hl_y rfl rfl rfl (y_assign (v := vi 0) rfl rfl) ?_
  refine hl_nil ?_
  refine hq_then ?_
  refine hc_seq ?_
  refine hc_seq ?_
  rcases Decidable.em (okR kl nl) with ok | ok
  · skip
    refine hc_region ?_
    refine hl_y rfl rfl rfl (y_move rfl rfl) ?_
    refine hl_y rfl rfl rfl (y_move rfl rfl) ?_
    refine hl_i rfl rfl rfl (e_call0 rfl F65 rfl (fun w hw => r12_Right_t _ _ _ _ w ((rdF hk) w hw) ((rdF hn) w hw) ok) rfl) ?_; intro _
    refine hl_y rfl rfl rfl (y_not rfl rfl) ?_
    refine hl_nil ?_
    refine hq_then ?_
    refine hc_ifF rfl ?_
    refine hc_skip ?_
    refine hq_then ?_
    refine hc_seq ?_
    refine hc_seq ?_
    refine hc_region ?_
    refine hl_y rfl rfl rfl (y_move rfl rfl) ?_
    refine hl_y rfl rfl rfl (y_as (y_lssn (q := 0) rfl rfl rfl ) (congrArg Value.bool (decide_eq_false (by omega)))) ?_
    refine hl_y rfl rfl rfl (y_move rfl rfl) ?_
    refine hl_yg 2 17 false rfl rfl rfl rfl rfl (y_move rfl rfl) ?_
    refine hl_yg 2 17 false rfl rfl rfl rfl rfl (y_gtrn (q := 65535) rfl rfl rfl ) ?_
    refine hl_y rfl rfl rfl (y_pick (b := false) rfl rfl rfl) ?_
    refine hl_nil ?_
    refine hq_then ?_
    refine hc_if rfl (fun c1 => ?_) (fun c1 => ?_)
    · replace c1 := of_decide_eq_true c1
      refine hc_seq ?_
      refine hc_region ?_
      refine hl_y rfl rfl rfl (y_build (vs := #[]) rfl zero_build rfl) ?_
      refine hl_i0 rfl rfl (e_stw 0 rfl T41.2 rfl rfl rfl (ns_oneb _ _)) ?_; intro _
      refine hl_y rfl rfl rfl (y_assign (v := vi 2) rfl rfl) ?_
      refine hl_nil ?_
      refine hq_then ?_
      refine hc_ret ?_
      exact hq_then_ret (hq_ret2 (()) rfl (rv_arr 0 rfl T41 rfl (ns_len _ _).symm) (rv_tmp rfl) (by rw [atVR, atFR, if_neg (fun h => by omega), if_pos ok, if_neg (by omega)]; try rfl) (fun _ h => Mm.pick h [] (by simp)))
    · replace c1 := of_decide_eq_false c1
      refine hc_skip ?_
      refine hq_then ?_
      refine hc_seq ?_
      have ok2 := ok.2
      refine hc_region ?_
      refine hl_y rfl rfl rfl (y_move rfl rfl) ?_
      refine hl_i rfl rfl rfl (e_call0 rfl F43 rfl (fun w hw => r11_Schedule_ct _ _ w ((rdF hk) w hw)) rfl) ?_; intro _
      refine hl_y rfl rfl rfl (y_move rfl rfl) ?_
      refine hl_y rfl rfl rfl (y_extract rfl rfl rfl) ?_
      refine hl_y rfl rfl rfl (y_extract rfl rfl rfl) ?_
      refine hl_i rfl rfl rfl (e_alloc rfl Z45) ?_; intro g8
      refine hl_i0 rfl rfl (e_stw 0 rfl T45.2 rfl rfl rfl (ns_oneb _ _)) ?_; intro _
      refine hl_y rfl rfl rfl (y_assign rfl rfl) ?_
      refine hl_nil ?_
      refine hq_then ?_
      refine hc_seq ?_
      refine hc_drawP [0] follows_mixed ?_
      refine hh_y 0 rfl rfl rfl rfl (by kernel_rfl) (by kernel_rfl) (by kernel_rfl) (fun _ h => Mm.pick h [0] (by decide)) (y_ldw 0 rfl T45 rfl rfl) ?_
      refine hh_y 1 rfl rfl rfl rfl (by kernel_rfl) (by kernel_rfl) (by kernel_rfl) (fun _ h => Mm.pick h [0] (by decide)) (y_move rfl rfl) ?_
      refine hh_y 2 rfl rfl rfl rfl (by kernel_rfl) (by kernel_rfl) (by kernel_rfl) (fun _ h => Mm.pick h [0] (by decide)) (y_move rfl rfl) ?_
      refine hh_i 3 rfl rfl rfl rfl (by kernel_rfl) (e_call0 rfl F66 rfl (fun w hw => r12_counter_ct _ _ n w ((rdF hn) w hw) (by omega) (by omega)) rfl) (fun _ _ h => Mm.pick h [0] (by decide)) ?_; intro _
      refine hh_i 4 rfl rfl rfl rfl (by kernel_rfl) (e_call0 rfl F45 rfl (fun w hw => r11_Encrypt_ct _ _ w) rfl) (fun _ _ h => Mm.pick h [0] (by decide)) ?_; intro _
      refine hh_i0 5 rfl rfl rfl (by kernel_rfl) (e_stw 1 rfl T41.2 rfl rfl rfl (ns_oneb _ _)) (fun _ _ h => Mm.pick_set h [0] (by decide) (by decide)) ?_; intro _
      refine hh_y 6 rfl rfl rfl rfl (by kernel_rfl) (by kernel_rfl) (by kernel_rfl) (fun _ h => Mm.pick h [0] (by decide)) (y_assign (v := vi 0) rfl rfl) ?_
      refine hh_done (by kernel_rfl) ?_
      refine hq_then ?_
      refine hc_ret ?_
      exact hq_ret2 (()) rfl (rv_arr 1 rfl T41 rfl (ns_len _ _).symm) (rv_tmp rfl) (by rw [atVR, atFR, if_pos ⟨ok, by omega⟩, if_pos ok, if_pos (by omega)]; try rfl) (fun _ h => Mm.pick h [] (by simp))
  · skip
    refine hc_region ?_
    refine hl_y rfl rfl rfl (y_move rfl rfl) ?_
    refine hl_y rfl rfl rfl (y_move rfl rfl) ?_
    refine hl_i rfl rfl rfl (e_call0 rfl F65 rfl (fun w hw => r12_Right_f _ _ _ _ w ((rdF hk) w hw) ((rdF hn) w hw) ok) rfl) ?_; intro _
    refine hl_y rfl rfl rfl (y_not rfl rfl) ?_
    refine hl_nil ?_
    refine hq_then ?_
    refine hc_ifT rfl ?_
    refine hc_seq ?_
    refine hc_region ?_
    refine hl_y rfl rfl rfl (y_build (vs := #[]) rfl zero_build rfl) ?_
    refine hl_i0 rfl rfl (e_stw 0 rfl T41.2 rfl rfl rfl (ns_oneb _ _)) ?_; intro _
    refine hl_y rfl rfl rfl (y_assign (v := vi 4) rfl rfl) ?_
    refine hl_nil ?_
    refine hq_then ?_
    refine hc_ret ?_
    exact hq_then_ret (hq_ret2 (()) rfl (rv_arr 0 rfl T41 rfl (ns_len _ _).symm) (rv_tmp rfl) (by rw [atVR, atFR, if_neg (fun h => ok h.1), if_neg ok]; try rfl) (fun _ h => Mm.pick h [] (by simp)))

theorem r12_At_neg (kl nl : List UInt8) (kv nv : Value) (n : Int) (hb : -9223372036854775808 ≤ n) (hn0 : n < 0) (w : World) (hk : Rd w kv (ls vb kl)) (hn : Rd w nv (ls vb nl)) : Ct0 Try.prog 48 #[kv, nv, .int .i64 n] w (.tuple #[.agg (ns vb 16 (fun _ => 0)).toArray, vi (atFnR kl nl)]) := by
  refine ct0_of Try.func48 rfl Try.ntmps48 rfl ?_
  refine hc_seq ?_
  refine hc_region ?_
  refine hl_i rfl rfl rfl (e_alloc rfl Z41) ?_; intro g6
  refine hl_y rfl rfl rfl (y_assign (v := vi 0) rfl rfl) ?_
  refine hl_nil ?_
  refine hq_then ?_
  refine hc_seq ?_
  refine hc_seq ?_
  rcases Decidable.em (okR kl nl) with ok | ok
  · skip
    refine hc_region ?_
    refine hl_y rfl rfl rfl (y_move rfl rfl) ?_
    refine hl_y rfl rfl rfl (y_move rfl rfl) ?_
    refine hl_i rfl rfl rfl (e_call0 rfl F65 rfl (fun w hw => r12_Right_t _ _ _ _ w ((rdF hk) w hw) ((rdF hn) w hw) ok) rfl) ?_; intro _
    refine hl_y rfl rfl rfl (y_not rfl rfl) ?_
    refine hl_nil ?_
    refine hq_then ?_
    refine hc_ifF rfl ?_
    refine hc_skip ?_
    refine hq_then ?_
    refine hc_seq ?_
    refine hc_seq ?_
    refine hc_region ?_
    refine hl_y rfl rfl rfl (y_move rfl rfl) ?_
    refine hl_y rfl rfl rfl (y_as (y_lssi (q := 0) rfl rfl rfl ) (congrArg Value.bool (decide_eq_true (by omega)))) ?_
    refine hl_y rfl rfl rfl (y_move rfl rfl) ?_
    refine hl_no 2 17 false true rfl rfl rfl rfl rfl rfl ?_
    refine hl_no 2 17 false true rfl rfl rfl rfl rfl rfl ?_
    refine hl_y rfl rfl rfl (y_pick (b := true) rfl rfl rfl) ?_
    refine hl_nil ?_
    refine hq_then ?_
    refine hc_ifT rfl ?_
    refine hc_seq ?_
    refine hc_region ?_
    refine hl_y rfl rfl rfl (y_build (vs := #[]) rfl zero_build rfl) ?_
    refine hl_i0 rfl rfl (e_stw 0 rfl T41.2 rfl rfl rfl (ns_oneb _ _)) ?_; intro _
    refine hl_y rfl rfl rfl (y_assign (v := vi 2) rfl rfl) ?_
    refine hl_nil ?_
    refine hq_then ?_
    refine hc_ret ?_
    exact hq_then_ret (hq_ret2 (()) rfl (rv_arr 0 rfl T41 rfl (ns_len _ _).symm) (rv_tmp rfl) (by rw [atFnR, if_pos ok]; try rfl) (fun _ h => Mm.pick h [] (by simp)))
  · skip
    refine hc_region ?_
    refine hl_y rfl rfl rfl (y_move rfl rfl) ?_
    refine hl_y rfl rfl rfl (y_move rfl rfl) ?_
    refine hl_i rfl rfl rfl (e_call0 rfl F65 rfl (fun w hw => r12_Right_f _ _ _ _ w ((rdF hk) w hw) ((rdF hn) w hw) ok) rfl) ?_; intro _
    refine hl_y rfl rfl rfl (y_not rfl rfl) ?_
    refine hl_nil ?_
    refine hq_then ?_
    refine hc_ifT rfl ?_
    refine hc_seq ?_
    refine hc_region ?_
    refine hl_y rfl rfl rfl (y_build (vs := #[]) rfl zero_build rfl) ?_
    refine hl_i0 rfl rfl (e_stw 0 rfl T41.2 rfl rfl rfl (ns_oneb _ _)) ?_; intro _
    refine hl_y rfl rfl rfl (y_assign (v := vi 4) rfl rfl) ?_
    refine hl_nil ?_
    refine hq_then ?_
    refine hc_ret ?_
    exact hq_then_ret (hq_ret2 (()) rfl (rv_arr 0 rfl T41 rfl (ns_len _ _).symm) (rv_tmp rfl) (by rw [atFnR, if_neg ok]; try rfl) (fun _ h => Mm.pick h [] (by simp)))

end Go.Proofs.Ytcdidapkpfnphaa
