/- The laws of the cipher: each call gives back true. -/
import Derived.Test.YtcdidapkpfnphaaAesC
import Derived.Test.YtcdidapkpfnphaaPureAes
namespace Go.Proofs.Ytcdidapkpfnphaa
open Go.RowKit
theorem law11_alive_ct (w : World) : Ct0 Try.prog 41 #[] w (.bool true) := by
  refine ct0_of Try.func41 rfl Try.ntmps41 rfl ?_
  refine hc_seq ?_
  refine hc_region ?_
  refine hl_y rfl rfl rfl (y_assign rfl rfl) ?_
  refine hl_nil ?_
  refine hq_then ?_
  refine hc_seq ?_
  refine hc_region ?_
  refine hl_y rfl rfl rfl (y_assign rfl rfl) ?_
  refine hl_nil ?_
  refine hq_then ?_
  refine hc_seq ?_
  refine hc_region ?_
  refine hl_i rfl rfl rfl (e_alloc rfl Z41) ?_; intro g2
  refine hl_nil ?_
  refine hq_then ?_
  refine hc_seq ?_
  refine hc_seq ?_
  refine hc_region ?_
  refine hl_y rfl rfl rfl (y_assign (v := vi 0) rfl rfl) ?_
  refine hl_nil ?_
  refine hq_then ?_
  refine hc_block ?_
  refine hc_loop2 (fun k v => k ≤ 32) (fun k v => 32 - k) (fun k v => [(1, v), (2, .pointer (some ⟨g2, 0, none⟩)), (3, vi k)]) (fun k v => Mm w [.row 5 v (ls vb (exKey k)), .blk g2 41 (ns vb 16 (fun _ => 0))]) (0) (.slice none 0 0) (by omega) ⟨rfl, rfl, lk_int rfl (by omega), trivial⟩ (fun _ h => mm_nil 5 _ h) ?_
  intro k v hk
  refine hc_seq ?_
  refine hc_seq ?_
  refine hc_region ?_
  refine hl_y rfl rfl rfl (y_move rfl rfl) ?_
  refine hl_y rfl rfl rfl (y_lssn (q := 32) rfl rfl rfl ) ?_
  refine hl_nil ?_
  refine hq_then ?_
  refine hc_if rfl (fun c0 => ?_) (fun c0 => ?_)
  · replace c0 := of_decide_eq_true c0
    refine hc_skip ?_
    refine hq_then ?_
    refine hc_seq ?_
    refine hc_block ?_
    refine hc_region ?_
    refine hl_y rfl rfl rfl (y_move rfl rfl) ?_
    refine hl_y rfl rfl rfl (y_move rfl rfl) ?_
    refine hl_y rfl rfl rfl (y_conv rfl U3 U5 rfl (wrap_nb _)) ?_
    refine hl_i rfl rfl rfl (e_lit1 rfl S22 Z1_5 rfl rfl rfl) ?_; intro g15
    refine hl_i rfl rfl rfl (e_appb 1 rfl A22_5 rfl rfl rfl (rdB 0 rfl rfl rfl (by omega)) (show _ = ls vb [UInt8.ofNat k] from rfl) (by rw [exKey_len]; simp; omega)) ?_; intro y16
    refine hl_y rfl rfl rfl (y_assign rfl rfl) ?_
    refine hl_nil ?_
    refine hq_in (hq_then ?_)
    refine hc_region ?_
    refine hl_y rfl rfl rfl (y_move rfl rfl) ?_
    refine hl_y rfl rfl rfl (y_addn (q := 1) rfl rfl rfl (by omega)) ?_
    refine hl_y rfl rfl rfl (y_assign rfl rfl) ?_
    refine hl_nil ?_
    exact hq_round2 (k + 1) (y16) (by omega) (by omega) ⟨rfl, rfl, lk_int rfl (by omega), trivial⟩ (fun _ h => (Mm.pick h [1, 2] (by decide)).setr 0 rfl (by rw [exKey_succ]))
  · replace c0 := of_decide_eq_false c0
    obtain rfl : k = 32 := by omega
    refine hc_exit ?_
    refine hq_then_exit (hq_loop_exit2 (hq_in_same (hq_then ?_)))
    refine hc_seq ?_
    refine hc_seq ?_
    refine hc_region ?_
    refine hl_y rfl rfl rfl (y_assign (v := vi 0) rfl rfl) ?_
    refine hl_nil ?_
    refine hq_then ?_
    refine hc_block ?_
    refine hc_loop (fun j => j ≤ 16) (fun j => 16 - j) (fun j => [(1, v), (2, .pointer (some ⟨g2, 0, none⟩)), (4, vi j)]) (fun j => Mm w [.row 5 v (ls vb (exKey 32)), .blk g2 41 (ns vb 16 (fun i => if i < j then exB i else 0))]) (0) (by omega) ⟨rfl, rfl, lk_int rfl (by omega), trivial⟩ (fun _ h => Mm.mm h (by simp)) ?_
    intro j hj
    refine hc_seq ?_
    refine hc_seq ?_
    refine hc_region ?_
    refine hl_y rfl rfl rfl (y_move rfl rfl) ?_
    refine hl_y rfl rfl rfl (y_lssn (q := 16) rfl rfl rfl ) ?_
    refine hl_nil ?_
    refine hq_then ?_
    refine hc_if rfl (fun c1 => ?_) (fun c1 => ?_)
    · replace c1 := of_decide_eq_true c1
      refine hc_skip ?_
      refine hq_then ?_
      refine hc_seq ?_
      refine hc_block ?_
      refine hc_region ?_
      refine hl_y rfl rfl rfl (y_move rfl rfl) ?_
      refine hl_y rfl rfl rfl (y_move rfl rfl) ?_
      refine hl_y rfl rfl rfl (y_muln (p := 17) rfl rfl rfl (by omega)) ?_
      refine hl_y rfl rfl rfl (y_conv rfl U3 U5 rfl (wrap_nb _)) ?_
      refine hl_y rfl rfl rfl (y_ixa1 rfl T41 O5 rfl rfl (by omega)) ?_
      refine hl_i0 rfl rfl (e_stn 1 rfl O5.2 rfl rfl rfl rfl (by omega)) ?_; intro _
      refine hl_nil ?_
      refine hq_in (hq_then ?_)
      refine hc_region ?_
      refine hl_y rfl rfl rfl (y_move rfl rfl) ?_
      refine hl_y rfl rfl rfl (y_addn (q := 1) rfl rfl rfl (by omega)) ?_
      refine hl_y rfl rfl rfl (y_assign rfl rfl) ?_
      refine hl_nil ?_
      exact hq_round (j + 1) (by omega) (by omega) ⟨rfl, rfl, lk_int rfl (by omega), trivial⟩ (fun _ h => Mm.set h 1 rfl (ns_step (f := exB) (g := fun _ => 0) rfl))
    · replace c1 := of_decide_eq_false c1
      obtain rfl : j = 16 := by omega
      refine hc_exit ?_
      refine hq_then_exit (hq_loop_exit (hq_in_same (hq_then ?_)))
      refine hc_seq ?_
      refine hc_region ?_
      refine hl_y rfl rfl rfl (y_move rfl rfl) ?_
      refine hl_i rfl rfl rfl (e_call0 rfl F42 rfl (fun w hw => aes_Schedule_ct _ _ w ((rdR 0 rfl) w hw)) rfl) ?_; intro _
      refine hl_y rfl rfl rfl (y_move rfl rfl) ?_
      refine hl_y rfl rfl rfl (y_extract rfl rfl rfl) ?_
      refine hl_y rfl rfl rfl (y_extract rfl rfl rfl) ?_
      refine hl_i rfl rfl rfl (e_alloc rfl Z46) ?_; intro g5
      refine hl_i0 rfl rfl (e_stw 0 rfl T46.2 rfl rfl rfl (ns_oneb _ _)) ?_; intro _
      refine hl_y rfl rfl rfl (y_assign rfl rfl) ?_
      refine hl_nil ?_
      refine hq_then ?_
      refine hc_seq ?_
      refine hc_region ?_
      refine hl_y rfl rfl rfl (y_ldw 0 rfl T46 rfl rfl) ?_
      refine hl_y rfl rfl rfl (y_ldw 2 rfl T41 rfl rfl) ?_
      refine hl_i rfl rfl rfl (e_call0 rfl F44 rfl (fun w hw => aes_Encrypt_ct _ _ w) rfl) ?_; intro _
      refine hl_i rfl rfl rfl (e_alloc rfl Z41) ?_; intro g7
      refine hl_i0 rfl rfl (e_stw 0 rfl T41.2 rfl rfl rfl (ns_oneb _ _)) ?_; intro _
      refine hl_nil ?_
      refine hq_then ?_
      refine hc_seq ?_
      refine hc_region ?_
      refine hl_y rfl rfl rfl (y_move rfl rfl) ?_
      refine hl_y rfl rfl rfl (y_as (y_eqln (q := 0) rfl rfl rfl ) (congrArg Value.bool (decide_eq_true ((by decide +kernel))))) ?_
      refine hl_y rfl rfl rfl (y_move rfl rfl) ?_
      refine hl_yg 2 36 true rfl rfl rfl rfl rfl (y_ixa1 (k := 0) rfl T41 O5 rfl rfl (by omega)) ?_
      refine hl_yg 2 36 true rfl rfl rfl rfl rfl (y_ldn 0 rfl O5 rfl rfl (by omega)) ?_
      refine hl_yg 2 36 true rfl rfl rfl rfl rfl (y_as (y_eqlb (q := 142) rfl rfl rfl) (congrArg Value.bool (decide_eq_true ((ex_enc (by intro i hi; rw [if_pos hi]) 0 (by decide)).trans (by decide +kernel))))) ?_
      refine hl_y rfl rfl rfl (y_pick (b := true) rfl rfl rfl) ?_
      refine hl_y rfl rfl rfl (y_move rfl rfl) ?_
      refine hl_yg 7 41 true rfl rfl rfl rfl rfl (y_ixa1 (k := 1) rfl T41 O5 rfl rfl (by omega)) ?_
      refine hl_yg 7 41 true rfl rfl rfl rfl rfl (y_ldn 0 rfl O5 rfl rfl (by omega)) ?_
      refine hl_yg 7 41 true rfl rfl rfl rfl rfl (y_as (y_eqlb (q := 162) rfl rfl rfl) (congrArg Value.bool (decide_eq_true ((ex_enc (by intro i hi; rw [if_pos hi]) 1 (by decide)).trans (by decide +kernel))))) ?_
      refine hl_y rfl rfl rfl (y_pick (b := true) rfl rfl rfl) ?_
      refine hl_y rfl rfl rfl (y_move rfl rfl) ?_
      refine hl_yg 12 46 true rfl rfl rfl rfl rfl (y_ixa1 (k := 2) rfl T41 O5 rfl rfl (by omega)) ?_
      refine hl_yg 12 46 true rfl rfl rfl rfl rfl (y_ldn 0 rfl O5 rfl rfl (by omega)) ?_
      refine hl_yg 12 46 true rfl rfl rfl rfl rfl (y_as (y_eqlb (q := 183) rfl rfl rfl) (congrArg Value.bool (decide_eq_true ((ex_enc (by intro i hi; rw [if_pos hi]) 2 (by decide)).trans (by decide +kernel))))) ?_
      refine hl_y rfl rfl rfl (y_pick (b := true) rfl rfl rfl) ?_
      refine hl_y rfl rfl rfl (y_move rfl rfl) ?_
      refine hl_yg 17 51 true rfl rfl rfl rfl rfl (y_ixa1 (k := 3) rfl T41 O5 rfl rfl (by omega)) ?_
      refine hl_yg 17 51 true rfl rfl rfl rfl rfl (y_ldn 0 rfl O5 rfl rfl (by omega)) ?_
      refine hl_yg 17 51 true rfl rfl rfl rfl rfl (y_as (y_eqlb (q := 202) rfl rfl rfl) (congrArg Value.bool (decide_eq_true ((ex_enc (by intro i hi; rw [if_pos hi]) 3 (by decide)).trans (by decide +kernel))))) ?_
      refine hl_y rfl rfl rfl (y_pick (b := true) rfl rfl rfl) ?_
      refine hl_y rfl rfl rfl (y_assign rfl rfl) ?_
      refine hl_nil ?_
      refine hq_then ?_
      refine hc_ret ?_
      exact hq_ret1 (()) rfl (rv_tmp rfl) rfl (fun _ h => Mm.pick h [] (by simp))

theorem enc_same (k s t : Nat → UInt8) : (eqn 16 (encF k s) (encF k t) == eqn 16 s t) = true := by
  rw [beq_iff_eq, Bool.eq_iff_iff, eqn_iff, eqn_iff]
  exact enc_iff
theorem aesSteps_ct (s k : Nat → UInt8) (w : World) : Ct0 Try.prog 8 #[.agg (ns vb 16 s).toArray, .agg (ns vb 16 k).toArray] w (.bool true) := by
  refine ct0_of Try.func8 rfl Try.ntmps8 rfl ?_
  refine hc_seq ?_
  refine hc_region ?_
  refine hl_i rfl rfl rfl (e_boxa rfl rfl) ?_; intro g2
  refine hl_i rfl rfl rfl (e_boxa rfl rfl) ?_; intro g3
  refine hl_y rfl rfl rfl (y_assign rfl rfl) ?_
  refine hl_nil ?_
  refine hq_then ?_
  refine hc_seq ?_
  refine hc_drawP [0, 1] follows_mixed ?_
  refine hh_y 0 rfl rfl rfl rfl (by kernel_rfl) (by kernel_rfl) (by kernel_rfl) (fun _ h => Mm.pick h [0, 1] (by decide)) (y_ldw 1 rfl T41 rfl rfl) ?_
  refine hh_y 2 rfl rfl rfl rfl (by kernel_rfl) (by kernel_rfl) (by kernel_rfl) (fun _ h => Mm.pick h [0, 1] (by decide)) (y_ldw 1 rfl T41 rfl rfl) ?_
  refine hh_i 1 rfl rfl rfl rfl (by kernel_rfl) (e_call0 rfl F33 rfl (fun w hw => aes_Sub_ct _ w) rfl) (fun _ _ h => Mm.pick h [0, 1] (by decide)) ?_; intro _
  refine hh_i 3 rfl rfl rfl rfl (by kernel_rfl) (e_call0 rfl F34 rfl (fun w hw => r11_Sub_ct _ w) rfl) (fun _ _ h => Mm.pick h [0, 1] (by decide)) ?_; intro _
  refine hh_y 4 rfl rfl rfl rfl (by kernel_rfl) (by kernel_rfl) (by kernel_rfl) (fun _ h => Mm.pick h [0, 1] (by decide)) (y_as (y_eqlarr Q41 rfl rfl rfl) (congrArg Value.bool (eqn_true (fun i _ => sub_eq s i)))) ?_
  refine hh_y 5 rfl rfl rfl rfl (by kernel_rfl) (by kernel_rfl) (by kernel_rfl) (fun _ h => Mm.pick h [0, 1] (by decide)) (y_move rfl rfl) ?_
  refine hh_yg 6 5 10 true rfl rfl rfl rfl rfl rfl (by kernel_rfl) (by kernel_rfl) (by kernel_rfl) (fun _ h => Mm.pick h [0, 1] (by decide)) (y_ldw 1 rfl T41 rfl rfl) ?_
  refine hh_yg 8 5 10 true rfl rfl rfl rfl rfl rfl (by kernel_rfl) (by kernel_rfl) (by kernel_rfl) (fun _ h => Mm.pick h [0, 1] (by decide)) (y_ldw 1 rfl T41 rfl rfl) ?_
  refine hh_ig 7 5 10 true rfl rfl rfl rfl rfl rfl (by kernel_rfl) (e_call0 rfl F35 rfl (fun w hw => aes_Shift_ct _ w) rfl) (fun _ _ h => Mm.pick h [0, 1] (by decide)) ?_; intro _
  refine hh_ig 9 5 10 true rfl rfl rfl rfl rfl rfl (by kernel_rfl) (e_call0 rfl F36 rfl (fun w hw => r11_Shift_ct _ w) rfl) (fun _ _ h => Mm.pick h [0, 1] (by decide)) ?_; intro _
  refine hh_yg 10 5 10 true rfl rfl rfl rfl rfl rfl (by kernel_rfl) (by kernel_rfl) (by kernel_rfl) (fun _ h => Mm.pick h [0, 1] (by decide)) (y_as (y_eqlarr Q41 rfl rfl rfl) (congrArg Value.bool (eqn_true (shift_eq s)))) ?_
  refine hh_y 11 rfl rfl rfl rfl (by kernel_rfl) (by kernel_rfl) (by kernel_rfl) (fun _ h => Mm.pick h [0, 1] (by decide)) (y_pick (b := true) rfl rfl rfl) ?_
  refine hh_y 12 rfl rfl rfl rfl (by kernel_rfl) (by kernel_rfl) (by kernel_rfl) (fun _ h => Mm.pick h [0, 1] (by decide)) (y_move rfl rfl) ?_
  refine hh_yg 13 12 17 true rfl rfl rfl rfl rfl rfl (by kernel_rfl) (by kernel_rfl) (by kernel_rfl) (fun _ h => Mm.pick h [0, 1] (by decide)) (y_ldw 1 rfl T41 rfl rfl) ?_
  refine hh_yg 15 12 17 true rfl rfl rfl rfl rfl rfl (by kernel_rfl) (by kernel_rfl) (by kernel_rfl) (fun _ h => Mm.pick h [0, 1] (by decide)) (y_ldw 1 rfl T41 rfl rfl) ?_
  refine hh_ig 14 12 17 true rfl rfl rfl rfl rfl rfl (by kernel_rfl) (e_call0 rfl F37 rfl (fun w hw => aes_Mix_ct _ w) rfl) (fun _ _ h => Mm.pick h [0, 1] (by decide)) ?_; intro _
  refine hh_ig 16 12 17 true rfl rfl rfl rfl rfl rfl (by kernel_rfl) (e_call0 rfl F38 rfl (fun w hw => r11_Mix_ct _ w) rfl) (fun _ _ h => Mm.pick h [0, 1] (by decide)) ?_; intro _
  refine hh_yg 17 12 17 true rfl rfl rfl rfl rfl rfl (by kernel_rfl) (by kernel_rfl) (by kernel_rfl) (fun _ h => Mm.pick h [0, 1] (by decide)) (y_as (y_eqlarr Q41 rfl rfl rfl) (congrArg Value.bool (eqn_true (fun i _ => mix_eq s i)))) ?_
  refine hh_y 18 rfl rfl rfl rfl (by kernel_rfl) (by kernel_rfl) (by kernel_rfl) (fun _ h => Mm.pick h [0, 1] (by decide)) (y_pick (b := true) rfl rfl rfl) ?_
  refine hh_y 19 rfl rfl rfl rfl (by kernel_rfl) (by kernel_rfl) (by kernel_rfl) (fun _ h => Mm.pick h [0, 1] (by decide)) (y_move rfl rfl) ?_
  refine hh_yg 20 19 24 true rfl rfl rfl rfl rfl rfl (by kernel_rfl) (by kernel_rfl) (by kernel_rfl) (fun _ h => Mm.pick h [0, 1] (by decide)) (y_ldw 1 rfl T41 rfl rfl) ?_
  refine hh_yg 21 19 24 true rfl rfl rfl rfl rfl rfl (by kernel_rfl) (by kernel_rfl) (by kernel_rfl) (fun _ h => Mm.pick h [0, 1] (by decide)) (y_ldw 0 rfl T41 rfl rfl) ?_
  refine hh_yg 23 19 24 true rfl rfl rfl rfl rfl rfl (by kernel_rfl) (by kernel_rfl) (by kernel_rfl) (fun _ h => Mm.pick h [0, 1] (by decide)) (y_ldw 1 rfl T41 rfl rfl) ?_
  refine hh_yg 24 19 24 true rfl rfl rfl rfl rfl rfl (by kernel_rfl) (by kernel_rfl) (by kernel_rfl) (fun _ h => Mm.pick h [0, 1] (by decide)) (y_ldw 0 rfl T41 rfl rfl) ?_
  refine hh_ig 22 19 24 true rfl rfl rfl rfl rfl rfl (by kernel_rfl) (e_call0 rfl F39 rfl (fun w hw => aes_Add_ct _ _ w) rfl) (fun _ _ h => Mm.pick h [0, 1] (by decide)) ?_; intro _
  refine hh_ig 25 19 24 true rfl rfl rfl rfl rfl rfl (by kernel_rfl) (e_call0 rfl F40 rfl (fun w hw => r11_Add_ct _ _ w) rfl) (fun _ _ h => Mm.pick h [0, 1] (by decide)) ?_; intro _
  refine hh_yg 26 19 24 true rfl rfl rfl rfl rfl rfl (by kernel_rfl) (by kernel_rfl) (by kernel_rfl) (fun _ h => Mm.pick h [0, 1] (by decide)) (y_as (y_eqlarr Q41 rfl rfl rfl) (congrArg Value.bool (eqn_true (fun _ _ => rfl)))) ?_
  refine hh_y 27 rfl rfl rfl rfl (by kernel_rfl) (by kernel_rfl) (by kernel_rfl) (fun _ h => Mm.pick h [0, 1] (by decide)) (y_pick (b := true) rfl rfl rfl) ?_
  refine hh_y 28 rfl rfl rfl rfl (by kernel_rfl) (by kernel_rfl) (by kernel_rfl) (fun _ h => Mm.pick h [0, 1] (by decide)) (y_move rfl rfl) ?_
  refine hh_ig 29 28 33 true rfl rfl rfl rfl rfl rfl (by kernel_rfl) (e_call0 rfl F41 rfl (fun w hw => law11_alive_ct w) rfl) (fun _ _ h => Mm.pick h [0, 1] (by decide)) ?_; intro _
  refine hh_y 30 rfl rfl rfl rfl (by kernel_rfl) (by kernel_rfl) (by kernel_rfl) (fun _ h => Mm.pick h [0, 1] (by decide)) (y_pick (b := true) rfl rfl rfl) ?_
  refine hh_y 31 rfl rfl rfl rfl (by kernel_rfl) (by kernel_rfl) (by kernel_rfl) (fun _ h => Mm.pick h [0, 1] (by decide)) (y_assign rfl rfl) ?_
  refine hh_done (by kernel_rfl) ?_
  refine hq_then ?_
  refine hc_ret ?_
  exact hq_ret1 (()) rfl (rv_tmp rfl) rfl (fun _ h => Mm.pick h [] (by simp))

theorem aesBlocks_ct (l : List UInt8) (v : Value) (s : Nat → UInt8) (w : World) (hv : Rd w v (ls vb l)) : Ct0 Try.prog 9 #[v, .agg (ns vb 16 s).toArray] w (.bool true) := by
  refine ct0_of Try.func9 rfl Try.ntmps9 rfl ?_
  refine hc_seq ?_
  refine hc_region ?_
  refine hl_i rfl rfl rfl (e_boxa rfl rfl) ?_; intro g3
  refine hl_y rfl rfl rfl (y_assign rfl rfl) ?_
  refine hl_nil ?_
  refine hq_then ?_
  refine hc_seq ?_
  refine hc_seq ?_
  refine hc_region ?_
  refine hl_y rfl rfl rfl (y_move rfl rfl) ?_
  refine hl_y rfl rfl rfl (y_lenE (l.length) rfl rfl S22 rfl (rdF hv) (by first | rfl | simp only [ls_len, ns_len] | (simp only [ls_len, ns_len]; omega))) ?_
  refine hl_y rfl rfl rfl (y_gtrn (q := 100) rfl rfl rfl ) ?_
  refine hl_nil ?_
  refine hq_then ?_
  refine hc_if rfl (fun c0 => ?_) (fun c0 => ?_)
  · replace c0 := of_decide_eq_true c0
    refine hc_seq ?_
    refine hc_region ?_
    refine hl_i rfl rfl rfl (e_call0 rfl F41 rfl (fun w hw => law11_alive_ct w) rfl) ?_; intro _
    refine hl_y rfl rfl rfl (y_assign rfl rfl) ?_
    refine hl_nil ?_
    refine hq_then ?_
    refine hc_ret ?_
    exact hq_then_ret (hq_ret1 (()) rfl (rv_tmp rfl) rfl (fun _ h => Mm.pick h [] (by simp)))
  · replace c0 := of_decide_eq_false c0
    refine hc_skip ?_
    refine hq_then ?_
    refine hc_seq ?_
    refine hc_region ?_
    refine hl_y rfl rfl rfl (y_move rfl rfl) ?_
    refine hl_i rfl rfl rfl (e_call0 rfl F42 rfl (fun w hw => aes_Schedule_ct _ _ w ((rdF hv) w hw)) rfl) ?_; intro _
    refine hl_y rfl rfl rfl (y_move rfl rfl) ?_
    refine hl_y rfl rfl rfl (y_extract rfl rfl rfl) ?_
    refine hl_y rfl rfl rfl (y_extract rfl rfl rfl) ?_
    refine hl_i rfl rfl rfl (e_alloc rfl Z46) ?_; intro g5
    refine hl_i0 rfl rfl (e_stw 0 rfl T46.2 rfl rfl rfl (ns_oneb _ _)) ?_; intro _
    refine hl_y rfl rfl rfl (y_assign rfl rfl) ?_
    refine hl_nil ?_
    refine hq_then ?_
    refine hc_seq ?_
    refine hc_region ?_
    refine hl_y rfl rfl rfl (y_move rfl rfl) ?_
    refine hl_i rfl rfl rfl (e_call0 rfl F43 rfl (fun w hw => r11_Schedule_ct _ _ w ((rdF hv) w hw)) rfl) ?_; intro _
    refine hl_y rfl rfl rfl (y_move rfl rfl) ?_
    refine hl_y rfl rfl rfl (y_extract rfl rfl rfl) ?_
    refine hl_y rfl rfl rfl (y_extract rfl rfl rfl) ?_
    refine hl_i rfl rfl rfl (e_alloc rfl Z45) ?_; intro g7
    refine hl_i0 rfl rfl (e_stw 0 rfl T45.2 rfl rfl rfl (ns_oneb _ _)) ?_; intro _
    refine hl_y rfl rfl rfl (y_assign rfl rfl) ?_
    refine hl_nil ?_
    refine hq_then ?_
    refine hc_seq ?_
    refine hc_drawP [0, 1, 2] follows_mixed ?_
    refine hh_y 0 rfl rfl rfl rfl (by kernel_rfl) (by kernel_rfl) (by kernel_rfl) (fun _ h => Mm.pick h [0, 1, 2] (by decide)) (y_ldw 1 rfl T46 rfl rfl) ?_
    refine hh_y 1 rfl rfl rfl rfl (by kernel_rfl) (by kernel_rfl) (by kernel_rfl) (fun _ h => Mm.pick h [0, 1, 2] (by decide)) (y_ldw 0 rfl T45 rfl rfl) ?_
    refine hh_y 2 rfl rfl rfl rfl (by kernel_rfl) (by kernel_rfl) (by kernel_rfl) (fun _ h => Mm.pick h [0, 1, 2] (by decide)) (y_as (y_eqlarr Q46 rfl rfl rfl) (congrArg Value.bool (eqn_true (fun q _ => by rw [sch_eq])))) ?_
    refine hh_y 3 rfl rfl rfl rfl (by kernel_rfl) (by kernel_rfl) (by kernel_rfl) (fun _ h => Mm.pick h [0, 1, 2] (by decide)) (y_move rfl rfl) ?_
    refine hh_yg 4 3 26 true rfl rfl rfl rfl rfl rfl (by kernel_rfl) (by kernel_rfl) (by kernel_rfl) (fun _ h => Mm.pick h [0, 1, 2] (by decide)) (y_move rfl rfl) ?_
    refine hh_yg 5 3 26 true rfl rfl rfl rfl rfl rfl (by kernel_rfl) (by kernel_rfl) (by kernel_rfl) (fun _ h => Mm.pick h [0, 1, 2] (by decide)) (y_move rfl rfl) ?_
    refine hh_yg 6 3 26 true rfl rfl rfl rfl rfl rfl (by kernel_rfl) (by kernel_rfl) (by kernel_rfl) (fun _ h => Mm.pick h [0, 1, 2] (by decide)) (y_as (y_eqln rfl rfl rfl ) (congrArg Value.bool (decide_eq_true (rfl)))) ?_
    refine hh_y 7 rfl rfl rfl rfl (by kernel_rfl) (by kernel_rfl) (by kernel_rfl) (fun _ h => Mm.pick h [0, 1, 2] (by decide)) (y_pick (b := true) rfl rfl rfl) ?_
    refine hh_y 8 rfl rfl rfl rfl (by kernel_rfl) (by kernel_rfl) (by kernel_rfl) (fun _ h => Mm.pick h [0, 1, 2] (by decide)) (y_move rfl rfl) ?_
    refine hh_yg 9 8 31 true rfl rfl rfl rfl rfl rfl (by kernel_rfl) (by kernel_rfl) (by kernel_rfl) (fun _ h => Mm.pick h [0, 1, 2] (by decide)) (y_ldw 1 rfl T46 rfl rfl) ?_
    refine hh_yg 10 8 31 true rfl rfl rfl rfl rfl rfl (by kernel_rfl) (by kernel_rfl) (by kernel_rfl) (fun _ h => Mm.pick h [0, 1, 2] (by decide)) (y_ldw 2 rfl T41 rfl rfl) ?_
    refine hh_yg 12 8 31 true rfl rfl rfl rfl rfl rfl (by kernel_rfl) (by kernel_rfl) (by kernel_rfl) (fun _ h => Mm.pick h [0, 1, 2] (by decide)) (y_ldw 0 rfl T45 rfl rfl) ?_
    refine hh_yg 13 8 31 true rfl rfl rfl rfl rfl rfl (by kernel_rfl) (by kernel_rfl) (by kernel_rfl) (fun _ h => Mm.pick h [0, 1, 2] (by decide)) (y_ldw 2 rfl T41 rfl rfl) ?_
    refine hh_ig 11 8 31 true rfl rfl rfl rfl rfl rfl (by kernel_rfl) (e_call0 rfl F44 rfl (fun w hw => aes_Encrypt_ct _ _ w) rfl) (fun _ _ h => Mm.pick h [0, 1, 2] (by decide)) ?_; intro _
    refine hh_ig 14 8 31 true rfl rfl rfl rfl rfl rfl (by kernel_rfl) (e_call0 rfl F45 rfl (fun w hw => r11_Encrypt_ct _ _ w) rfl) (fun _ _ h => Mm.pick h [0, 1, 2] (by decide)) ?_; intro _
    refine hh_yg 15 8 31 true rfl rfl rfl rfl rfl rfl (by kernel_rfl) (by kernel_rfl) (by kernel_rfl) (fun _ h => Mm.pick h [0, 1, 2] (by decide)) (y_as (y_eqlarr Q41 rfl rfl rfl) (congrArg Value.bool (eqn_true (enc_eq fun q _ => by rw [sch_eq])))) ?_
    refine hh_y 16 rfl rfl rfl rfl (by kernel_rfl) (by kernel_rfl) (by kernel_rfl) (fun _ h => Mm.pick h [0, 1, 2] (by decide)) (y_pick (b := true) rfl rfl rfl) ?_
    refine hh_y 17 rfl rfl rfl rfl (by kernel_rfl) (by kernel_rfl) (by kernel_rfl) (fun _ h => Mm.pick h [0, 1, 2] (by decide)) (y_move rfl rfl) ?_
    refine hh_ig 18 17 40 true rfl rfl rfl rfl rfl rfl (by kernel_rfl) (e_call0 rfl F41 rfl (fun w hw => law11_alive_ct w) rfl) (fun _ _ h => Mm.pick h [0, 1, 2] (by decide)) ?_; intro _
    refine hh_y 19 rfl rfl rfl rfl (by kernel_rfl) (by kernel_rfl) (by kernel_rfl) (fun _ h => Mm.pick h [0, 1, 2] (by decide)) (y_pick (b := true) rfl rfl rfl) ?_
    refine hh_y 20 rfl rfl rfl rfl (by kernel_rfl) (by kernel_rfl) (by kernel_rfl) (fun _ h => Mm.pick h [0, 1, 2] (by decide)) (y_assign rfl rfl) ?_
    refine hh_done (by kernel_rfl) ?_
    refine hq_then ?_
    refine hc_ret ?_
    exact hq_ret1 (()) rfl (rv_tmp rfl) rfl (fun _ h => Mm.pick h [] (by simp))

theorem aesBack_ct (l : List UInt8) (v : Value) (s t : Nat → UInt8) (w : World) (hv : Rd w v (ls vb l)) : Ct0 Try.prog 10 #[v, .agg (ns vb 16 s).toArray, .agg (ns vb 16 t).toArray] w (.bool true) := by
  refine ct0_of Try.func10 rfl Try.ntmps10 rfl ?_
  refine hc_seq ?_
  refine hc_region ?_
  refine hl_i rfl rfl rfl (e_boxa rfl rfl) ?_; intro g4
  refine hl_i rfl rfl rfl (e_boxa rfl rfl) ?_; intro g5
  refine hl_y rfl rfl rfl (y_assign rfl rfl) ?_
  refine hl_nil ?_
  refine hq_then ?_
  refine hc_seq ?_
  refine hc_seq ?_
  refine hc_region ?_
  refine hl_y rfl rfl rfl (y_move rfl rfl) ?_
  refine hl_y rfl rfl rfl (y_lenE (l.length) rfl rfl S22 rfl (rdF hv) (by first | rfl | simp only [ls_len, ns_len] | (simp only [ls_len, ns_len]; omega))) ?_
  refine hl_y rfl rfl rfl (y_neqn (q := 32) rfl rfl rfl ) ?_
  refine hl_nil ?_
  refine hq_then ?_
  refine hc_if rfl (fun c0 => ?_) (fun c0 => ?_)
  · replace c0 := of_decide_eq_true c0
    refine hc_seq ?_
    refine hc_region ?_
    refine hl_i rfl rfl rfl (e_call0 rfl F41 rfl (fun w hw => law11_alive_ct w) rfl) ?_; intro _
    refine hl_y rfl rfl rfl (y_assign rfl rfl) ?_
    refine hl_nil ?_
    refine hq_then ?_
    refine hc_ret ?_
    exact hq_then_ret (hq_ret1 (()) rfl (rv_tmp rfl) rfl (fun _ h => Mm.pick h [] (by simp)))
  · replace c0 := of_decide_eq_false c0
    refine hc_skip ?_
    refine hq_then ?_
    refine hc_seq ?_
    refine hc_region ?_
    refine hl_y rfl rfl rfl (y_move rfl rfl) ?_
    refine hl_i rfl rfl rfl (e_call0 rfl F42 rfl (fun w hw => aes_Schedule_ct _ _ w ((rdF hv) w hw)) rfl) ?_; intro _
    refine hl_y rfl rfl rfl (y_move rfl rfl) ?_
    refine hl_y rfl rfl rfl (y_extract rfl rfl rfl) ?_
    refine hl_y rfl rfl rfl (y_extract rfl rfl rfl) ?_
    refine hl_i rfl rfl rfl (e_alloc rfl Z46) ?_; intro g7
    refine hl_i0 rfl rfl (e_stw 0 rfl T46.2 rfl rfl rfl (ns_oneb _ _)) ?_; intro _
    refine hl_y rfl rfl rfl (y_assign rfl rfl) ?_
    refine hl_nil ?_
    refine hq_then ?_
    refine hc_seq ?_
    refine hc_seq ?_
    refine hc_drawP [0, 1, 2] follows_mixed ?_
    refine hh_y 0 rfl rfl rfl rfl (by kernel_rfl) (by kernel_rfl) (by kernel_rfl) (fun _ h => Mm.pick h [0, 1, 2] (by decide)) (y_ldw 2 rfl T41 rfl rfl) ?_
    refine hh_y 5 rfl rfl rfl rfl (by kernel_rfl) (by kernel_rfl) (by kernel_rfl) (fun _ h => Mm.pick h [0, 1, 2] (by decide)) (y_ldw 2 rfl T41 rfl rfl) ?_
    refine hh_i 1 rfl rfl rfl rfl (by kernel_rfl) (e_call0 rfl F35 rfl (fun w hw => aes_Shift_ct _ w) rfl) (fun _ _ h => Mm.pick h [0, 1, 2] (by decide)) ?_; intro _
    refine hh_i 2 rfl rfl rfl rfl (by kernel_rfl) (e_call0 rfl F35 rfl (fun w hw => aes_Shift_ct _ w) rfl) (fun _ _ h => Mm.pick h [0, 1, 2] (by decide)) ?_; intro _
    refine hh_i 3 rfl rfl rfl rfl (by kernel_rfl) (e_call0 rfl F35 rfl (fun w hw => aes_Shift_ct _ w) rfl) (fun _ _ h => Mm.pick h [0, 1, 2] (by decide)) ?_; intro _
    refine hh_i 4 rfl rfl rfl rfl (by kernel_rfl) (e_call0 rfl F35 rfl (fun w hw => aes_Shift_ct _ w) rfl) (fun _ _ h => Mm.pick h [0, 1, 2] (by decide)) ?_; intro _
    refine hh_y 6 rfl rfl rfl rfl (by kernel_rfl) (by kernel_rfl) (by kernel_rfl) (fun _ h => Mm.pick h [0, 1, 2] (by decide)) (y_as (y_neqarr Q41 rfl rfl rfl) (congrArg (fun b => Value.bool (!b)) (eqn_true (shift4 s)))) ?_
    refine hh_y 7 rfl rfl rfl rfl (by kernel_rfl) (by kernel_rfl) (by kernel_rfl) (fun _ h => Mm.pick h [0, 1, 2] (by decide)) (y_move rfl rfl) ?_
    refine hh_yg 8 7 25 false rfl rfl rfl rfl rfl rfl (by kernel_rfl) (by kernel_rfl) (by kernel_rfl) (fun _ h => Mm.pick h [0, 1, 2] (by decide)) (y_ldw 2 rfl T41 rfl rfl) ?_
    refine hh_yg 13 7 25 false rfl rfl rfl rfl rfl rfl (by kernel_rfl) (by kernel_rfl) (by kernel_rfl) (fun _ h => Mm.pick h [0, 1, 2] (by decide)) (y_ldw 2 rfl T41 rfl rfl) ?_
    refine hh_ig 9 7 25 false rfl rfl rfl rfl rfl rfl (by kernel_rfl) (e_call0 rfl F37 rfl (fun w hw => aes_Mix_ct _ w) rfl) (fun _ _ h => Mm.pick h [0, 1, 2] (by decide)) ?_; intro _
    refine hh_ig 10 7 25 false rfl rfl rfl rfl rfl rfl (by kernel_rfl) (e_call0 rfl F37 rfl (fun w hw => aes_Mix_ct _ w) rfl) (fun _ _ h => Mm.pick h [0, 1, 2] (by decide)) ?_; intro _
    refine hh_ig 11 7 25 false rfl rfl rfl rfl rfl rfl (by kernel_rfl) (e_call0 rfl F37 rfl (fun w hw => aes_Mix_ct _ w) rfl) (fun _ _ h => Mm.pick h [0, 1, 2] (by decide)) ?_; intro _
    refine hh_ig 12 7 25 false rfl rfl rfl rfl rfl rfl (by kernel_rfl) (e_call0 rfl F37 rfl (fun w hw => aes_Mix_ct _ w) rfl) (fun _ _ h => Mm.pick h [0, 1, 2] (by decide)) ?_; intro _
    refine hh_yg 14 7 25 false rfl rfl rfl rfl rfl rfl (by kernel_rfl) (by kernel_rfl) (by kernel_rfl) (fun _ h => Mm.pick h [0, 1, 2] (by decide)) (y_as (y_neqarr Q41 rfl rfl rfl) (congrArg (fun b => Value.bool (!b)) (eqn_true (mix4 s)))) ?_
    refine hh_y 15 rfl rfl rfl rfl (by kernel_rfl) (by kernel_rfl) (by kernel_rfl) (fun _ h => Mm.pick h [0, 1, 2] (by decide)) (y_pick (b := false) rfl rfl rfl) ?_
    refine hh_y 16 rfl rfl rfl rfl (by kernel_rfl) (by kernel_rfl) (by kernel_rfl) (fun _ h => Mm.pick h [0, 1, 2] (by decide)) (y_move rfl rfl) ?_
    refine hh_yg 17 16 34 false rfl rfl rfl rfl rfl rfl (by kernel_rfl) (by kernel_rfl) (by kernel_rfl) (fun _ h => Mm.pick h [0, 1, 2] (by decide)) (y_ldw 2 rfl T41 rfl rfl) ?_
    refine hh_yg 18 16 34 false rfl rfl rfl rfl rfl rfl (by kernel_rfl) (by kernel_rfl) (by kernel_rfl) (fun _ h => Mm.pick h [0, 1, 2] (by decide)) (y_ldw 1 rfl T41 rfl rfl) ?_
    refine hh_yg 20 16 34 false rfl rfl rfl rfl rfl rfl (by kernel_rfl) (by kernel_rfl) (by kernel_rfl) (fun _ h => Mm.pick h [0, 1, 2] (by decide)) (y_ldw 1 rfl T41 rfl rfl) ?_
    refine hh_yg 22 16 34 false rfl rfl rfl rfl rfl rfl (by kernel_rfl) (by kernel_rfl) (by kernel_rfl) (fun _ h => Mm.pick h [0, 1, 2] (by decide)) (y_ldw 2 rfl T41 rfl rfl) ?_
    refine hh_ig 19 16 34 false rfl rfl rfl rfl rfl rfl (by kernel_rfl) (e_call0 rfl F39 rfl (fun w hw => aes_Add_ct _ _ w) rfl) (fun _ _ h => Mm.pick h [0, 1, 2] (by decide)) ?_; intro _
    refine hh_ig 21 16 34 false rfl rfl rfl rfl rfl rfl (by kernel_rfl) (e_call0 rfl F39 rfl (fun w hw => aes_Add_ct _ _ w) rfl) (fun _ _ h => Mm.pick h [0, 1, 2] (by decide)) ?_; intro _
    refine hh_yg 23 16 34 false rfl rfl rfl rfl rfl rfl (by kernel_rfl) (by kernel_rfl) (by kernel_rfl) (fun _ h => Mm.pick h [0, 1, 2] (by decide)) (y_as (y_neqarr Q41 rfl rfl rfl) (congrArg (fun b => Value.bool (!b)) (eqn_true (fun i _ => add2 s t i)))) ?_
    refine hh_y 24 rfl rfl rfl rfl (by kernel_rfl) (by kernel_rfl) (by kernel_rfl) (fun _ h => Mm.pick h [0, 1, 2] (by decide)) (y_pick (b := false) rfl rfl rfl) ?_
    refine hh_done (by kernel_rfl) ?_
    refine hq_then ?_
    refine hc_ifF rfl ?_
    refine hc_skip ?_
    refine hq_then ?_
    refine hc_seq ?_
    refine hc_drawP [0, 1, 2] follows_mixed ?_
    refine hh_y 0 rfl rfl rfl rfl (by kernel_rfl) (by kernel_rfl) (by kernel_rfl) (fun _ h => Mm.pick h [0, 1, 2] (by decide)) (y_ldw 0 rfl T46 rfl rfl) ?_
    refine hh_y 1 rfl rfl rfl rfl (by kernel_rfl) (by kernel_rfl) (by kernel_rfl) (fun _ h => Mm.pick h [0, 1, 2] (by decide)) (y_ldw 2 rfl T41 rfl rfl) ?_
    refine hh_y 3 rfl rfl rfl rfl (by kernel_rfl) (by kernel_rfl) (by kernel_rfl) (fun _ h => Mm.pick h [0, 1, 2] (by decide)) (y_ldw 0 rfl T46 rfl rfl) ?_
    refine hh_y 4 rfl rfl rfl rfl (by kernel_rfl) (by kernel_rfl) (by kernel_rfl) (fun _ h => Mm.pick h [0, 1, 2] (by decide)) (y_ldw 1 rfl T41 rfl rfl) ?_
    refine hh_y 7 rfl rfl rfl rfl (by kernel_rfl) (by kernel_rfl) (by kernel_rfl) (fun _ h => Mm.pick h [0, 1, 2] (by decide)) (y_ldw 2 rfl T41 rfl rfl) ?_
    refine hh_y 8 rfl rfl rfl rfl (by kernel_rfl) (by kernel_rfl) (by kernel_rfl) (fun _ h => Mm.pick h [0, 1, 2] (by decide)) (y_ldw 1 rfl T41 rfl rfl) ?_
    refine hh_y 9 rfl rfl rfl rfl (by kernel_rfl) (by kernel_rfl) (by kernel_rfl) (fun _ h => Mm.pick h [0, 1, 2] (by decide)) (y_eqlarr Q41 rfl rfl rfl) ?_
    refine hh_i 2 rfl rfl rfl rfl (by kernel_rfl) (e_call0 rfl F44 rfl (fun w hw => aes_Encrypt_ct _ _ w) rfl) (fun _ _ h => Mm.pick h [0, 1, 2] (by decide)) ?_; intro _
    refine hh_i 5 rfl rfl rfl rfl (by kernel_rfl) (e_call0 rfl F44 rfl (fun w hw => aes_Encrypt_ct _ _ w) rfl) (fun _ _ h => Mm.pick h [0, 1, 2] (by decide)) ?_; intro _
    refine hh_y 6 rfl rfl rfl rfl (by kernel_rfl) (by kernel_rfl) (by kernel_rfl) (fun _ h => Mm.pick h [0, 1, 2] (by decide)) (y_eqlarr Q41 rfl rfl rfl) ?_
    refine hh_y 10 rfl rfl rfl rfl (by kernel_rfl) (by kernel_rfl) (by kernel_rfl) (fun _ h => Mm.pick h [0, 1, 2] (by decide)) (y_as (y_eqlbool U4 rfl rfl rfl) (congrArg Value.bool (enc_same _ s t))) ?_
    refine hh_y 11 rfl rfl rfl rfl (by kernel_rfl) (by kernel_rfl) (by kernel_rfl) (fun _ h => Mm.pick h [0, 1, 2] (by decide)) (y_move rfl rfl) ?_
    refine hh_ig 12 11 54 true rfl rfl rfl rfl rfl rfl (by kernel_rfl) (e_call0 rfl F41 rfl (fun w hw => law11_alive_ct w) rfl) (fun _ _ h => Mm.pick h [0, 1, 2] (by decide)) ?_; intro _
    refine hh_y 13 rfl rfl rfl rfl (by kernel_rfl) (by kernel_rfl) (by kernel_rfl) (fun _ h => Mm.pick h [0, 1, 2] (by decide)) (y_pick (b := true) rfl rfl rfl) ?_
    refine hh_y 14 rfl rfl rfl rfl (by kernel_rfl) (by kernel_rfl) (by kernel_rfl) (fun _ h => Mm.pick h [0, 1, 2] (by decide)) (y_assign rfl rfl) ?_
    refine hh_done (by kernel_rfl) ?_
    refine hq_then ?_
    refine hc_ret ?_
    exact hq_ret1 (()) rfl (rv_tmp rfl) rfl (fun _ h => Mm.pick h [] (by simp))

end Go.Proofs.Ytcdidapkpfnphaa
