/- Bytes repeated, and tags: what each call gives back. -/
import Derived.Test.YtcdidapkpfnphaaDoorMacA
import Derived.Test.YtcdidapkpfnphaaDoorCtrC
import Derived.Test.YtcdidapkpfnphaaDoorLibK
namespace Go.Proofs.YtcdidapkpfnphaaDoor
open Go.RowKit
set_option linter.unusedVariables false
set_option linter.unusedSimpArgs false
set_option maxRecDepth 100000
theorem bits_Mul64_ct (w : World) : Ct0 Tryd.prog 112 #[vq 1, vq 64] w (.tuple #[vq 0, vq 64]) := by
  refine ct0_of Tryd.func112 rfl Tryd.ntmps112 rfl ?_
  refine hc_seq ?_
  refine hc_region ?_
  refine hl_y rfl rfl rfl (y_assign (v := vq 0) rfl rfl) ?_
  refine hl_y rfl rfl rfl (y_assign (v := vq 0) rfl rfl) ?_
  refine hl_nil ?_
  refine hq_then ?_
  refine hc_seq ?_
  refine hc_region ?_
  refine hl_y rfl rfl rfl (y_move rfl rfl) ?_
  refine hl_y rfl rfl rfl (y_andq (q := 4294967295) rfl rfl rfl) ?_
  refine hl_y rfl rfl rfl (y_assign rfl rfl) ?_
  refine hl_nil ?_
  refine hq_then ?_
  refine hc_seq ?_
  refine hc_region ?_
  refine hl_y rfl rfl rfl (y_move rfl rfl) ?_
  refine hl_y rfl rfl rfl (y_shrq (m := 32) rfl rfl rfl rfl (by first | omega | (simp only [ls_len, ns_len, List.length_append, List.length_take, List.length_drop, List.length_replicate, List.length_cons, List.length_nil, putL_len, shaL_len, overL_len, macKey_len, hmacL_len]; omega) | (simp only [ls_len, ns_len, List.length_append, List.length_take, List.length_drop, List.length_replicate, List.length_cons, List.length_nil, putL_len, shaL_len, overL_len, macKey_len, hmacL_len] at *; omega))) ?_
  refine hl_y rfl rfl rfl (y_assign rfl rfl) ?_
  refine hl_nil ?_
  refine hq_then ?_
  refine hc_seq ?_
  refine hc_region ?_
  refine hl_y rfl rfl rfl (y_move rfl rfl) ?_
  refine hl_y rfl rfl rfl (y_andq (q := 4294967295) rfl rfl rfl) ?_
  refine hl_y rfl rfl rfl (y_assign rfl rfl) ?_
  refine hl_nil ?_
  refine hq_then ?_
  refine hc_seq ?_
  refine hc_region ?_
  refine hl_y rfl rfl rfl (y_move rfl rfl) ?_
  refine hl_y rfl rfl rfl (y_shrq (m := 32) rfl rfl rfl rfl (by first | omega | (simp only [ls_len, ns_len, List.length_append, List.length_take, List.length_drop, List.length_replicate, List.length_cons, List.length_nil, putL_len, shaL_len, overL_len, macKey_len, hmacL_len]; omega) | (simp only [ls_len, ns_len, List.length_append, List.length_take, List.length_drop, List.length_replicate, List.length_cons, List.length_nil, putL_len, shaL_len, overL_len, macKey_len, hmacL_len] at *; omega))) ?_
  refine hl_y rfl rfl rfl (y_assign rfl rfl) ?_
  refine hl_nil ?_
  refine hq_then ?_
  refine hc_seq ?_
  refine hc_region ?_
  refine hl_y rfl rfl rfl (y_move rfl rfl) ?_
  refine hl_y rfl rfl rfl (y_move rfl rfl) ?_
  refine hl_y rfl rfl rfl (y_mulq rfl rfl rfl) ?_
  refine hl_y rfl rfl rfl (y_assign rfl rfl) ?_
  refine hl_nil ?_
  refine hq_then ?_
  refine hc_seq ?_
  refine hc_region ?_
  refine hl_y rfl rfl rfl (y_move rfl rfl) ?_
  refine hl_y rfl rfl rfl (y_move rfl rfl) ?_
  refine hl_y rfl rfl rfl (y_mulq rfl rfl rfl) ?_
  refine hl_y rfl rfl rfl (y_move rfl rfl) ?_
  refine hl_y rfl rfl rfl (y_shrq (m := 32) rfl rfl rfl rfl (by first | omega | (simp only [ls_len, ns_len, List.length_append, List.length_take, List.length_drop, List.length_replicate, List.length_cons, List.length_nil, putL_len, shaL_len, overL_len, macKey_len, hmacL_len]; omega) | (simp only [ls_len, ns_len, List.length_append, List.length_take, List.length_drop, List.length_replicate, List.length_cons, List.length_nil, putL_len, shaL_len, overL_len, macKey_len, hmacL_len] at *; omega))) ?_
  refine hl_y rfl rfl rfl (y_addq rfl rfl rfl) ?_
  refine hl_y rfl rfl rfl (y_assign rfl rfl) ?_
  refine hl_nil ?_
  refine hq_then ?_
  refine hc_seq ?_
  refine hc_region ?_
  refine hl_y rfl rfl rfl (y_move rfl rfl) ?_
  refine hl_y rfl rfl rfl (y_andq (q := 4294967295) rfl rfl rfl) ?_
  refine hl_y rfl rfl rfl (y_assign rfl rfl) ?_
  refine hl_nil ?_
  refine hq_then ?_
  refine hc_seq ?_
  refine hc_region ?_
  refine hl_y rfl rfl rfl (y_move rfl rfl) ?_
  refine hl_y rfl rfl rfl (y_shrq (m := 32) rfl rfl rfl rfl (by first | omega | (simp only [ls_len, ns_len, List.length_append, List.length_take, List.length_drop, List.length_replicate, List.length_cons, List.length_nil, putL_len, shaL_len, overL_len, macKey_len, hmacL_len]; omega) | (simp only [ls_len, ns_len, List.length_append, List.length_take, List.length_drop, List.length_replicate, List.length_cons, List.length_nil, putL_len, shaL_len, overL_len, macKey_len, hmacL_len] at *; omega))) ?_
  refine hl_y rfl rfl rfl (y_assign rfl rfl) ?_
  refine hl_nil ?_
  refine hq_then ?_
  refine hc_seq ?_
  refine hc_region ?_
  refine hl_y rfl rfl rfl (y_move rfl rfl) ?_
  refine hl_y rfl rfl rfl (y_move rfl rfl) ?_
  refine hl_y rfl rfl rfl (y_move rfl rfl) ?_
  refine hl_y rfl rfl rfl (y_mulq rfl rfl rfl) ?_
  refine hl_y rfl rfl rfl (y_addq rfl rfl rfl) ?_
  refine hl_y rfl rfl rfl (y_assign rfl rfl) ?_
  refine hl_nil ?_
  refine hq_then ?_
  refine hc_seq ?_
  refine hc_region ?_
  refine hl_y rfl rfl rfl (y_move rfl rfl) ?_
  refine hl_y rfl rfl rfl (y_move rfl rfl) ?_
  refine hl_y rfl rfl rfl (y_mulq rfl rfl rfl) ?_
  refine hl_y rfl rfl rfl (y_move rfl rfl) ?_
  refine hl_y rfl rfl rfl (y_addq rfl rfl rfl) ?_
  refine hl_y rfl rfl rfl (y_move rfl rfl) ?_
  refine hl_y rfl rfl rfl (y_shrq (m := 32) rfl rfl rfl rfl (by first | omega | (simp only [ls_len, ns_len, List.length_append, List.length_take, List.length_drop, List.length_replicate, List.length_cons, List.length_nil, putL_len, shaL_len, overL_len, macKey_len, hmacL_len]; omega) | (simp only [ls_len, ns_len, List.length_append, List.length_take, List.length_drop, List.length_replicate, List.length_cons, List.length_nil, putL_len, shaL_len, overL_len, macKey_len, hmacL_len] at *; omega))) ?_
  refine hl_y rfl rfl rfl (y_addq rfl rfl rfl) ?_
  refine hl_y rfl rfl rfl (y_assign rfl rfl) ?_
  refine hl_nil ?_
  refine hq_then ?_
  refine hc_seq ?_
  refine hc_region ?_
  refine hl_y rfl rfl rfl (y_move rfl rfl) ?_
  refine hl_y rfl rfl rfl (y_move rfl rfl) ?_
  refine hl_y rfl rfl rfl (y_mulq rfl rfl rfl) ?_
  refine hl_y rfl rfl rfl (y_assign rfl rfl) ?_
  refine hl_nil ?_
  refine hq_then ?_
  refine hc_ret ?_
  exact hq_ret2 (()) rfl (rv_tmp rfl) (rv_tmp rfl) rfl (fun _ h => Mm.pick h [] (by simp))

theorem bits_Mul_ct (w : World) : Ct0 Tryd.prog 99 #[vq 1, vq 64] w (.tuple #[vq 0, vq 64]) := by
  refine ct0_of Tryd.func99 rfl Tryd.ntmps99 rfl ?_
  refine hc_seq ?_
  refine hc_region ?_
  refine hl_y rfl rfl rfl (y_assign (v := vq 0) rfl rfl) ?_
  refine hl_y rfl rfl rfl (y_assign (v := vq 0) rfl rfl) ?_
  refine hl_nil ?_
  refine hq_then ?_
  refine hc_seq ?_
  refine hc_ifF rfl ?_
  refine hc_skip ?_
  refine hq_then ?_
  refine hc_seq ?_
  refine hc_region ?_
  refine hl_y rfl rfl rfl (y_move rfl rfl) ?_
  refine hl_y rfl rfl rfl (y_move rfl rfl) ?_
  refine hl_i rfl rfl rfl (e_call0 rfl F112 rfl (fun w hw => bits_Mul64_ct w) rfl) ?_; intro _
  refine hl_y rfl rfl rfl (y_move rfl rfl) ?_
  refine hl_y rfl rfl rfl (y_extract rfl rfl rfl) ?_
  refine hl_y rfl rfl rfl (y_extract rfl rfl rfl) ?_
  refine hl_y rfl rfl rfl (y_assign rfl rfl) ?_
  refine hl_y rfl rfl rfl (y_assign rfl rfl) ?_
  refine hl_nil ?_
  refine hq_then ?_
  refine hc_seq ?_
  refine hc_region ?_
  refine hl_y rfl rfl rfl (y_move rfl rfl) ?_
  refine hl_y rfl rfl rfl (y_move rfl rfl) ?_
  refine hl_y rfl rfl rfl (y_assign rfl rfl) ?_
  refine hl_y rfl rfl rfl (y_assign rfl rfl) ?_
  refine hl_nil ?_
  refine hq_then ?_
  refine hc_ret ?_
  exact hq_ret2 (()) rfl (rv_tmp rfl) (rv_tmp rfl) rfl (fun _ h => Mm.pick h [] (by simp))

theorem repeat_ct (c : UInt8) (v : Value) (w : World) (hv : Rd w v (ls vb [c])) : Ct Tryd.prog 90 #[v, vi 64] w (fun g : Nat => .slice (some ⟨g, 0, none⟩) 64 64) (fun g => [.ro g (.slice (some ⟨g, 0, none⟩) 64 64) (ls vb (List.replicate 64 c))]) := by
  refine ct_of Tryd.func90 rfl Tryd.ntmps90 rfl ?_
  refine hc_seq ?_
  refine hc_region ?_
  refine hl_y rfl rfl rfl (y_assign rfl rfl) ?_
  refine hl_nil ?_
  refine hq_then ?_
  refine hc_seq ?_
  refine hc_seq ?_
  refine hc_region ?_
  refine hl_y rfl rfl rfl (y_move rfl rfl) ?_
  refine hl_y rfl rfl rfl (y_as (y_eqln (q := 0) rfl rfl rfl ) (congrArg Value.bool (decide_eq_false (by omega)))) ?_
  refine hl_nil ?_
  refine hq_then ?_
  refine hc_ifF rfl ?_
  refine hc_skip ?_
  refine hq_then ?_
  refine hc_seq ?_
  refine hc_seq ?_
  refine hc_region ?_
  refine hl_y rfl rfl rfl (y_move rfl rfl) ?_
  refine hl_y rfl rfl rfl (y_as (y_lssn (q := 0) rfl rfl rfl ) (congrArg Value.bool (decide_eq_false (by omega)))) ?_
  refine hl_nil ?_
  refine hq_then ?_
  refine hc_ifF rfl ?_
  refine hc_skip ?_
  refine hq_then ?_
  refine hc_seq ?_
  refine hc_region ?_
  refine hl_y rfl rfl rfl (y_move rfl rfl) ?_
  refine hl_y rfl rfl rfl (y_lenE (1) rfl rfl S22 rfl (rdF hv) (by first | rfl | (simp only [ls_len, ns_len, List.length_append, List.length_take, List.length_drop, List.length_replicate, List.length_cons, List.length_nil, putL_len, shaL_len, overL_len, macKey_len, hmacL_len]; done) | (simp only [ls_len, ns_len, List.length_append, List.length_take, List.length_drop, List.length_replicate, List.length_cons, List.length_nil, putL_len, shaL_len, overL_len, macKey_len, hmacL_len]; omega))) ?_
  refine hl_y rfl rfl rfl (y_conv rfl U3 U60 rfl (wrap_nq _)) ?_
  refine hl_y rfl rfl rfl (y_move rfl rfl) ?_
  refine hl_y rfl rfl rfl (y_conv rfl U3 U60 rfl (wrap_nq _)) ?_
  refine hl_i rfl rfl rfl (e_call0 rfl F99 rfl (fun w hw => bits_Mul_ct w) rfl) ?_; intro _
  refine hl_y rfl rfl rfl (y_move rfl rfl) ?_
  refine hl_y rfl rfl rfl (y_extract rfl rfl rfl) ?_
  refine hl_y rfl rfl rfl (y_extract rfl rfl rfl) ?_
  refine hl_y rfl rfl rfl (y_assign rfl rfl) ?_
  refine hl_y rfl rfl rfl (y_assign rfl rfl) ?_
  refine hl_nil ?_
  refine hq_then ?_
  refine hc_seq ?_
  refine hc_seq ?_
  refine hc_region ?_
  refine hl_y rfl rfl rfl (y_move rfl rfl) ?_
  refine hl_y rfl rfl rfl (y_as (y_gtrq (q := 0) rfl rfl rfl) (congrArg Value.bool (decide_eq_false (by decide)))) ?_
  refine hl_y rfl rfl rfl (y_move rfl rfl) ?_
  refine hl_yg 2 29 false rfl rfl rfl rfl rfl (y_move rfl rfl) ?_
  refine hl_yg 2 29 false rfl rfl rfl rfl rfl (y_as (y_gtrq (q := 9223372036854775807) rfl rfl rfl) (congrArg Value.bool (decide_eq_false (by decide)))) ?_
  refine hl_y rfl rfl rfl (y_pick (b := false) rfl rfl rfl) ?_
  refine hl_nil ?_
  refine hq_then ?_
  refine hc_ifF rfl ?_
  refine hc_skip ?_
  refine hq_then ?_
  refine hc_seq ?_
  refine hc_region ?_
  refine hl_y rfl rfl rfl (y_move rfl rfl) ?_
  refine hl_y rfl rfl rfl (y_conv (q := ((64 : Nat) : Int)) rfl U60 U3 rfl (by decide)) ?_
  refine hl_y rfl rfl rfl (y_assign rfl rfl) ?_
  refine hl_nil ?_
  refine hq_then ?_
  refine hc_seq ?_
  refine hc_seq ?_
  refine hc_region ?_
  refine hl_y rfl rfl rfl (y_move rfl rfl) ?_
  refine hl_y rfl rfl rfl (y_lenE (1) rfl rfl S22 rfl (rdF hv) (by first | rfl | (simp only [ls_len, ns_len, List.length_append, List.length_take, List.length_drop, List.length_replicate, List.length_cons, List.length_nil, putL_len, shaL_len, overL_len, macKey_len, hmacL_len]; done) | (simp only [ls_len, ns_len, List.length_append, List.length_take, List.length_drop, List.length_replicate, List.length_cons, List.length_nil, putL_len, shaL_len, overL_len, macKey_len, hmacL_len]; omega))) ?_
  refine hl_y rfl rfl rfl (y_as (y_eqln (q := 0) rfl rfl rfl ) (congrArg Value.bool (decide_eq_false (by omega)))) ?_
  refine hl_nil ?_
  refine hq_then ?_
  refine hc_ifF rfl ?_
  refine hc_skip ?_
  refine hq_then ?_
  refine hc_seq ?_
  refine hc_region ?_
  refine hl_y rfl rfl rfl (y_move rfl rfl) ?_
  refine hl_y rfl rfl rfl (y_assign rfl rfl) ?_
  refine hl_nil ?_
  refine hq_then ?_
  refine hc_seq ?_
  refine hc_seq ?_
  refine hc_region ?_
  refine hl_y rfl rfl rfl (y_move rfl rfl) ?_
  refine hl_y rfl rfl rfl (y_as (y_gtrn (q := 8192) rfl rfl rfl ) (congrArg Value.bool (decide_eq_false (by omega)))) ?_
  refine hl_nil ?_
  refine hq_then ?_
  refine hc_ifF rfl ?_
  refine hc_skip ?_
  refine hq_then ?_
  refine hc_seq ?_
  refine hc_region ?_
  refine hl_y rfl rfl rfl (y_move rfl rfl) ?_
  refine hl_i rfl rfl rfl (e_nz (ps := #[3]) (t := 22) rfl Tryd.func100 (by kernel_rfl) (by kernel_rfl) (by kernel_rfl) (by kernel_rfl) S22.1 rfl rfl (by omega)) ?_; intro y54
  refine hl_y rfl rfl rfl (y_move rfl rfl) ?_
  refine hl_y rfl rfl rfl (y_move rfl rfl) ?_
  refine hl_y rfl rfl rfl (y_slcB3 rfl S22 rfl rfl rfl (by omega) (by have := y54.2; omega) (by omega)) ?_
  refine hl_y rfl rfl rfl (y_assign rfl rfl) ?_
  refine hl_nil ?_
  refine hq_then ?_
  refine hc_seq ?_
  refine hc_region ?_
  refine hl_y rfl rfl rfl (y_move rfl rfl) ?_
  refine hl_y rfl rfl rfl (y_move rfl rfl) ?_
  refine hl_i rfl rfl rfl (e_copy 0 rfl S22 rfl rfl rfl (rdF hv) (vb_one _) (by have := y54.2; omega) (cs' := List.replicate 1 (vb c) ++ y54.1.2.drop 1) rfl) ?_; intro _
  refine hl_y rfl rfl rfl (y_assign rfl rfl) ?_
  refine hl_nil ?_
  refine hq_then ?_
  refine hc_seq ?_
  refine hc_block ?_
  refine hc_loop2 (fun k R => 1 ≤ k ∧ k ≤ 64 ∧ k + R.length = y54.1.2.length) (fun k R => 64 - k) (fun k R => [(7, vi 64), (8, vi 64), (9, .slice (some ⟨y54.1.1, 0, none⟩) 64 64), (10, vi k)]) (fun k R => Mm w [.blk y54.1.1 5 (List.replicate k (vb c) ++ R)]) (1) (y54.1.2.drop 1) ⟨by omega, by omega, by have := y54.2; rw [List.length_drop]; omega⟩ ⟨lk_int rfl (by omega), lk_int rfl (by omega), rfl, rfl, trivial⟩ (fun _ h => h) ?_
  intro k R hk
  obtain ⟨hk1, hk, hR⟩ := hk
  have hy54 := y54.2
  refine hc_seq ?_
  refine hc_seq ?_
  refine hc_region ?_
  refine hl_y rfl rfl rfl (y_move rfl rfl) ?_
  refine hl_y rfl rfl rfl (y_move rfl rfl) ?_
  refine hl_y rfl rfl rfl (y_lssn rfl rfl rfl ) ?_
  refine hl_nil ?_
  refine hq_then ?_
  refine hc_if rfl (fun c5 => ?_) (fun c5 => ?_)
  · replace c5 := of_decide_eq_true c5
    refine hc_skip ?_
    refine hq_then ?_
    refine hc_block ?_
    refine hc_seq ?_
    refine hc_region ?_
    refine hl_y rfl rfl rfl (y_move rfl rfl) ?_
    refine hl_y rfl rfl rfl (y_move rfl rfl) ?_
    refine hl_y rfl rfl rfl (y_minn rfl rfl rfl) ?_
    refine hl_y rfl rfl rfl (y_assign rfl rfl) ?_
    refine hl_nil ?_
    refine hq_then ?_
    refine hc_drawP [] follows_mixed ?_
    refine hh_y 0 rfl rfl rfl rfl (by kernel_rfl) (by kernel_rfl) (by kernel_rfl) (fun _ h => Mm.pick h [] (by decide)) (y_move rfl rfl) ?_
    refine hh_y 1 rfl rfl rfl rfl (by kernel_rfl) (by kernel_rfl) (by kernel_rfl) (fun _ h => Mm.pick h [] (by decide)) (y_move rfl rfl) ?_
    refine hh_y 2 rfl rfl rfl rfl (by kernel_rfl) (by kernel_rfl) (by kernel_rfl) (fun _ h => Mm.pick h [] (by decide)) (y_move rfl rfl) ?_
    refine hh_y 3 rfl rfl rfl rfl (by kernel_rfl) (by kernel_rfl) (by kernel_rfl) (fun _ h => Mm.pick h [] (by decide)) (y_slcT rfl S22 rfl rfl (by omega) (by omega)) ?_
    refine hh_y 4 rfl rfl rfl rfl (by kernel_rfl) (by kernel_rfl) (by kernel_rfl) (fun _ h => Mm.pick h [] (by decide)) (y_move rfl rfl) ?_
    refine hh_y 5 rfl rfl rfl rfl (by kernel_rfl) (by kernel_rfl) (by kernel_rfl) (fun _ h => Mm.pick h [] (by decide)) (y_move rfl rfl) ?_
    refine hh_y 6 rfl rfl rfl rfl (by kernel_rfl) (by kernel_rfl) (by kernel_rfl) (fun _ h => Mm.pick h [] (by decide)) (y_slcB rfl S22 rfl rfl (by omega) (by omega)) ?_
    refine hh_i 7 rfl rfl rfl rfl (by kernel_rfl) (e_repc (N := 64) (R := R) 0 rfl S22 rfl rfl rfl rfl (by omega) (by omega) (by omega)) (fun _ _ h => Mm.pick h [] (by decide)) ?_; intro _
    refine hh_y 8 rfl rfl rfl rfl (by kernel_rfl) (by kernel_rfl) (by kernel_rfl) (fun _ h => Mm.pick h [] (by decide)) (y_addn rfl rfl rfl (by first | omega | (simp only [ls_len, ns_len, List.length_append, List.length_take, List.length_drop, List.length_replicate, List.length_cons, List.length_nil, putL_len, shaL_len, overL_len, macKey_len, hmacL_len]; omega) | (simp only [ls_len, ns_len, List.length_append, List.length_take, List.length_drop, List.length_replicate, List.length_cons, List.length_nil, putL_len, shaL_len, overL_len, macKey_len, hmacL_len] at *; omega))) ?_
    refine hh_y 9 rfl rfl rfl rfl (by kernel_rfl) (by kernel_rfl) (by kernel_rfl) (fun _ h => Mm.pick h [] (by decide)) (y_assign rfl rfl) ?_
    refine hh_done (by kernel_rfl) ?_
    refine hq_in (?_)
    exact hq_round2 (k + min k (64 - k)) (R.drop (min k (64 - k))) (by omega) ⟨by omega, by omega, by rw [List.length_drop]; omega⟩ ⟨lk_int rfl (by omega), lk_int rfl (by omega), rfl, lk_int rfl (by omega), trivial⟩ (fun _ h => h)
  · replace c5 := of_decide_eq_false c5
    refine hc_exit ?_
    refine hq_then_exit (hq_loop_exit2 (hq_in_same (hq_then ?_)))
    refine hc_seq ?_
    refine hc_region ?_
    refine hl_y rfl rfl rfl (y_move rfl rfl) ?_
    refine hl_y rfl rfl rfl (y_assign rfl rfl) ?_
    refine hl_nil ?_
    refine hq_then ?_
    refine hc_ret ?_
    exact hq_ret1 (y54.1.1) rfl (rv_tmp rfl) rfl (mm_ro 0 rfl (by rw [show k = 64 from by omega, List.take_append_of_le_length (by simp), List.take_replicate]; simp [ls]) (by simp [ls]) (by omega))

theorem mac_over_ct (k : List UInt8) (kv : Value) (g : Nat) (c : UInt8) (w : World) (hg : w.cell? ⟨g, 0, none⟩ = some kv) (hk : Rd w kv (ls vb k)) (hl : k.length = 64) : Ct Tryd.prog 89 #[vb c, .pointer (some ⟨g, 0, none⟩)] w (fun v : Value => v) (fun v => [.row 5 v (ls vb (overL k c))]) := by
  refine ct_of Tryd.func89 rfl Tryd.ntmps89 rfl ?_
  refine hc_seq ?_
  refine hc_region ?_
  refine hl_y rfl rfl rfl (y_assign rfl rfl) ?_
  refine hl_nil ?_
  refine hq_then ?_
  refine hc_seq ?_
  refine hc_drawP [] follows_mixed ?_
  refine hh_y 0 rfl rfl rfl rfl (by kernel_rfl) (by kernel_rfl) (by kernel_rfl) (fun _ h => Mm.pick h [] (by decide)) (y_ldg rfl O22 rfl hg) ?_
  refine hh_y 1 rfl rfl rfl rfl (by kernel_rfl) (by kernel_rfl) (by kernel_rfl) (fun _ h => Mm.pick h [] (by decide)) (y_move rfl rfl) ?_
  refine hh_i 2 rfl rfl rfl rfl (by kernel_rfl) (e_lit1 rfl S22 Z1_5 rfl rfl rfl) (fun _ _ h => Mm.pick h [] (by decide)) ?_; intro g6
  refine hh_i 3 rfl rfl rfl rfl (by kernel_rfl) (e_call rfl F90 rfl (fun w hw => repeat_ct c _ w ((rdB 0 rfl rfl rfl (by omega)) w hw)) rfl) (fun _ _ h => Mm.pick h [] (by decide)) ?_; intro y7
  refine hh_i 4 rfl rfl rfl rfl (by kernel_rfl) (e_call rfl F81 rfl (fun w hw => num_Xor_ct _ _ _ _ w ((rdF hk) w hw) ((rdO 0 rfl) w hw) (by omega)) rfl) (fun _ _ h => Mm.pick h [] (by decide)) ?_; intro y8
  refine hh_y 5 rfl rfl rfl rfl (by kernel_rfl) (by kernel_rfl) (by kernel_rfl) (fun _ h => Mm.pick h [] (by decide)) (y_assign rfl rfl) ?_
  refine hh_done (by kernel_rfl) ?_
  refine hq_then ?_
  refine hc_ret ?_
  exact hq_ret1 (y8) rfl (rv_tmp rfl) rfl (fun _ h => (Mm.pick h [0] (by decide)).mm (by rw [xor_rep _ _ 64 hl]; rfl))

theorem mac_tag_ct (kl : List UInt8) (kv : Value) (ps : List Pt) (pv : Value)  (w : World) (hk : Rd w kv (ls vb kl)) (hkm : kl.length ≤ 1000) (hp : Rd w pv (ls Prod.fst ps)) (hq : ∀ p ∈ ps, Rd w p.1 (ls vb p.2)) (hpm : (catL ps).length ≤ 100000) (hpl : ps.length ≤ 1000) (hkl : KL w) : Ct Tryd.prog 73 #[kv, pv] w (fun v : Value => v) (fun v => [.row 5 v (ls vb (hmacL kl (catL ps)))]) := by
  refine ct_of Tryd.func73 rfl Tryd.ntmps73 rfl ?_
  refine hc_seq ?_
  refine hc_region ?_
  refine hl_y rfl rfl rfl (y_assign rfl rfl) ?_
  refine hl_nil ?_
  refine hq_then ?_
  refine hc_seq ?_
  refine hc_region ?_
  refine hl_y rfl rfl rfl (y_move rfl rfl) ?_
  refine hl_i rfl rfl rfl (e_call rfl F40 rfl (fun w hw => mac_Key_ct kl _ w ((rdF hk) w hw) (by first | omega | (simp only [List.length_append, List.length_take, List.length_drop, List.length_replicate, List.length_cons, List.length_nil, putL_len, shaL_len, overL_len, macKey_len, hmacL_len]; omega) | (simp only [List.length_append, List.length_take, List.length_drop, List.length_replicate, List.length_cons, List.length_nil, putL_len, shaL_len, overL_len, macKey_len, hmacL_len] at *; omega)) (hkl.below (Mm.out hw).low)) rfl) ?_; intro y9
  refine hl_i rfl rfl rfl (e_alloc rfl Z22) ?_; intro g5
  refine hl_i0 rfl rfl (e_str 0 1 rfl O22.2 rfl rfl rfl rfl (by simp)) ?_; intro _
  refine hl_nil ?_
  refine hq_then ?_
  refine hc_seq ?_
  refine hc_region ?_
  refine hl_y rfl rfl rfl (y_func (vs := #[.pointer (some ⟨g5, 0, none⟩)]) rfl rfl) ?_
  refine hl_y rfl rfl rfl (y_assign rfl rfl) ?_
  refine hl_nil ?_
  refine hq_then ?_
  refine hc_seq ?_
  refine hc_region ?_
  refine hl_y rfl rfl rfl (y_move rfl rfl) ?_
  refine hl_i rfl rfl rfl (e_callC rfl F89 rfl (fun w hw => mac_over_ct (macKey kl) y9 g5 54 w (blk_cell hw 0 rfl rfl) ((rdR 1 rfl) w hw) (macKey_len kl)) rfl) ?_; intro y12
  refine hl_y rfl rfl rfl (y_move rfl rfl) ?_
  refine hl_i rfl rfl rfl (e_call rfl F69 rfl (fun w hw => concat_ct ps _ w (hp.below (Mm.out hw).low) (fun p h => (hq p h).below (Mm.out hw).low) (by omega) hpl) rfl) ?_; intro y14
  refine hl_i rfl rfl rfl (e_appb 1 rfl A22_5 rfl rfl rfl (rdR 0 rfl) rfl (by first | omega | (simp only [ls_len, ns_len, List.length_append, List.length_take, List.length_drop, List.length_replicate, List.length_cons, List.length_nil, putL_len, shaL_len, overL_len, macKey_len, hmacL_len]; omega) | (simp only [ls_len, ns_len, List.length_append, List.length_take, List.length_drop, List.length_replicate, List.length_cons, List.length_nil, putL_len, shaL_len, overL_len, macKey_len, hmacL_len] at *; omega))) ?_; intro y15
  refine hl_i rfl rfl rfl (e_call rfl F28 rfl (fun w hw => sha_Sum_ct ((overL (macKey kl) 54) ++ (catL ps)) _ w ((rdR 1 rfl) w hw) (by first | omega | (simp only [List.length_append, List.length_take, List.length_drop, List.length_replicate, List.length_cons, List.length_nil, putL_len, shaL_len, overL_len, macKey_len, hmacL_len]; omega) | (simp only [List.length_append, List.length_take, List.length_drop, List.length_replicate, List.length_cons, List.length_nil, putL_len, shaL_len, overL_len, macKey_len, hmacL_len] at *; omega)) (hkl.below (Mm.out hw).low)) rfl) ?_; intro y16
  refine hl_y rfl rfl rfl (y_assign rfl rfl) ?_
  refine hl_nil ?_
  refine hq_then ?_
  refine hc_seq ?_
  refine hc_region ?_
  refine hl_y rfl rfl rfl (y_move rfl rfl) ?_
  refine hl_i rfl rfl rfl (e_callC rfl F89 rfl (fun w hw => mac_over_ct (macKey kl) y9 g5 92 w (blk_cell hw 3 rfl rfl) ((rdR 4 rfl) w hw) (macKey_len kl)) rfl) ?_; intro y18
  refine hl_y rfl rfl rfl (y_move rfl rfl) ?_
  refine hl_i rfl rfl rfl (e_appb 0 rfl A22_5 rfl rfl rfl (rdR 1 rfl) rfl (by first | omega | (simp only [ls_len, ns_len, List.length_append, List.length_take, List.length_drop, List.length_replicate, List.length_cons, List.length_nil, putL_len, shaL_len, overL_len, macKey_len, hmacL_len]; omega) | (simp only [ls_len, ns_len, List.length_append, List.length_take, List.length_drop, List.length_replicate, List.length_cons, List.length_nil, putL_len, shaL_len, overL_len, macKey_len, hmacL_len] at *; omega))) ?_; intro y20
  refine hl_i rfl rfl rfl (e_call rfl F28 rfl (fun w hw => sha_Sum_ct ((overL (macKey kl) 92) ++ (shaL ((overL (macKey kl) 54) ++ (catL ps)))) _ w ((rdR 0 rfl) w hw) (by first | omega | (simp only [List.length_append, List.length_take, List.length_drop, List.length_replicate, List.length_cons, List.length_nil, putL_len, shaL_len, overL_len, macKey_len, hmacL_len]; omega) | (simp only [List.length_append, List.length_take, List.length_drop, List.length_replicate, List.length_cons, List.length_nil, putL_len, shaL_len, overL_len, macKey_len, hmacL_len] at *; omega)) (hkl.below (Mm.out hw).low)) rfl) ?_; intro y21
  refine hl_y rfl rfl rfl (y_assign rfl rfl) ?_
  refine hl_nil ?_
  refine hq_then ?_
  refine hc_ret ?_
  exact hq_ret1 (y21) rfl (rv_tmp rfl) rfl (fun _ h => Mm.pick h [0] (by decide))

theorem mac_Of_ct (kl : List UInt8) (kv : Value) (tl : List UInt8) (tv : Value)  (w : World) (hk : Rd w kv (ls vb kl)) (hkm : kl.length ≤ 1000) (ht : Rd w tv (ls vb tl)) (htm : tl.length ≤ 90000) (hkl : KL w) : Ct Tryd.prog 41 #[kv, tv] w (fun v : Value => v) (fun v => [.row 5 v (ls vb (hmacL kl tl))]) := by
  refine ct_of Tryd.func41 rfl Tryd.ntmps41 rfl ?_
  refine hc_seq ?_
  refine hc_region ?_
  refine hl_y rfl rfl rfl (y_assign rfl rfl) ?_
  refine hl_nil ?_
  refine hq_then ?_
  refine hc_seq ?_
  refine hc_region ?_
  refine hl_y rfl rfl rfl (y_move rfl rfl) ?_
  refine hl_y rfl rfl rfl (y_move rfl rfl) ?_
  refine HL.pre (RdM.one (rdF ht)) ?_; intro o7_0
  refine hl_i rfl rfl rfl (e_lit1 rfl S75 Z1_22 rfl rfl o7_0) ?_; intro g7
  refine hl_i rfl rfl rfl (e_call rfl F73 rfl (fun w hw => mac_tag_ct kl _ ([(_, tl)]) _ w ((rdF hk) w hw) (by omega) ((rdB 0 rfl rfl rfl (by omega)) w hw) (List.forall_mem_cons.2 ⟨(rdF ht : RdM _ _ (ls vb tl)) w hw, (fun _ h => absurd h (by simp))⟩) (by simp only [catL, List.map_cons, List.map_nil, List.flatten_cons, List.flatten_nil, List.length_append, List.length_take, List.length_drop, List.length_replicate, List.length_cons, List.length_nil, putL_len, shaL_len, overL_len, macKey_len, hmacL_len]; omega) (by simp) (hkl.below (Mm.out hw).low)) rfl) ?_; intro y8
  refine HL.mem (fun _ h => h.setr 0 rfl (congrArg (fun z => ls vb (hmacL kl z)) (catL1 _ _))) ?_
  refine hl_y rfl rfl rfl (y_assign rfl rfl) ?_
  refine hl_nil ?_
  refine hq_then ?_
  refine hc_ret ?_
  exact hq_ret1 (y8) rfl (rv_tmp rfl) rfl (fun _ h => Mm.pick h [0] (by decide))

theorem mac_Two_ct (kl : List UInt8) (kv : Value) (la lb : List UInt8) (av bv : Value)  (w : World) (hk : Rd w kv (ls vb kl)) (hkm : kl.length ≤ 1000) (ha : Rd w av (ls vb la)) (ham : la.length ≤ 40000) (hb : Rd w bv (ls vb lb)) (hbm : lb.length ≤ 40000) (hkl : KL w) : Ct Tryd.prog 44 #[kv, av, bv] w (fun v : Value => v) (fun v => [.row 5 v (ls vb (hmacL kl (putL (UInt64.ofNat la.length) 4 ++ la ++ lb)))]) := by
  refine ct_of Tryd.func44 rfl Tryd.ntmps44 rfl ?_
  refine hc_seq ?_
  refine hc_region ?_
  refine hl_y rfl rfl rfl (y_assign rfl rfl) ?_
  refine hl_nil ?_
  refine hq_then ?_
  refine hc_seq ?_
  refine hc_region ?_
  refine hl_y rfl rfl rfl (y_move rfl rfl) ?_
  refine hl_y rfl rfl rfl (y_move rfl rfl) ?_
  refine hl_y rfl rfl rfl (y_lenE (la.length) rfl rfl S22 rfl (rdF ha) (by first | rfl | (simp only [ls_len, ns_len, List.length_append, List.length_take, List.length_drop, List.length_replicate, List.length_cons, List.length_nil, putL_len, shaL_len, overL_len, macKey_len, hmacL_len]; done) | (simp only [ls_len, ns_len, List.length_append, List.length_take, List.length_drop, List.length_replicate, List.length_cons, List.length_nil, putL_len, shaL_len, overL_len, macKey_len, hmacL_len]; omega))) ?_
  refine hl_y rfl rfl rfl (y_conv rfl U3 U45 rfl (wrap_nq _)) ?_
  refine hl_i rfl rfl rfl (e_call rfl F61 rfl (fun w hw => num_Put_ct _ 4 (by omega) (by omega) w) rfl) ?_; intro y11
  refine hl_y rfl rfl rfl (y_move rfl rfl) ?_
  refine hl_y rfl rfl rfl (y_move rfl rfl) ?_
  refine HL.pre (RdM.one (rdR 0 rfl)) ?_; intro o14_0
  refine HL.pre (RdM.one (rdF ha)) ?_; intro o14_1
  refine HL.pre (RdM.one (rdF hb)) ?_; intro o14_2
  refine hl_i rfl rfl rfl (e_lit3 rfl S75 Z1_22 rfl rfl rfl rfl o14_0 o14_1 o14_2) ?_; intro g14
  refine hl_i rfl rfl rfl (e_call rfl F73 rfl (fun w hw => mac_tag_ct kl _ ([(_, (putL (UInt64.ofNat la.length) 4)), (_, la), (_, lb)]) _ w ((rdF hk) w hw) (by omega) ((rdB 0 rfl rfl rfl (by omega)) w hw) (List.forall_mem_cons.2 ⟨(rdR 1 rfl : RdM _ _ (ls vb (putL (UInt64.ofNat la.length) 4))) w hw, (List.forall_mem_cons.2 ⟨(rdF ha : RdM _ _ (ls vb la)) w hw, (List.forall_mem_cons.2 ⟨(rdF hb : RdM _ _ (ls vb lb)) w hw, (fun _ h => absurd h (by simp))⟩)⟩)⟩) (by simp only [catL, List.map_cons, List.map_nil, List.flatten_cons, List.flatten_nil, List.length_append, List.length_take, List.length_drop, List.length_replicate, List.length_cons, List.length_nil, putL_len, shaL_len, overL_len, macKey_len, hmacL_len]; omega) (by simp) (hkl.below (Mm.out hw).low)) rfl) ?_; intro y15
  refine HL.mem (fun _ h => h.setr 0 rfl (congrArg (fun z => ls vb (hmacL kl z)) (catL3 _ _ _ _ _ _))) ?_
  refine hl_y rfl rfl rfl (y_assign rfl rfl) ?_
  refine hl_nil ?_
  refine hq_then ?_
  refine hc_ret ?_
  exact hq_ret1 (y15) rfl (rv_tmp rfl) rfl (fun _ h => Mm.pick h [0] (by decide))

theorem bytes_Equal_ct (la lb : List UInt8) (av bv : Value)  (w : World) (ha : Rd w av (ls vb la)) (hb : Rd w bv (ls vb lb)) : Ct0 Tryd.prog 76 #[av, bv] w (.bool (decide (la = lb))) := by
  refine ct0_of Tryd.func76 rfl Tryd.ntmps76 rfl ?_
  refine hc_seq ?_
  refine hc_region ?_
  refine hl_y rfl rfl rfl (y_assign rfl rfl) ?_
  refine hl_nil ?_
  refine hq_then ?_
  refine hc_seq ?_
  refine hc_region ?_
  refine hl_y rfl rfl rfl (y_move rfl rfl) ?_
  refine hl_y rfl rfl rfl (y_str rfl S22.1 U5 U9 rfl (rdF ha)) ?_
  refine hl_y rfl rfl rfl (y_move rfl rfl) ?_
  refine hl_y rfl rfl rfl (y_str rfl S22.1 U5 U9 rfl (rdF hb)) ?_
  refine hl_y rfl rfl rfl (y_eqls rfl rfl rfl) ?_
  refine hl_y rfl rfl rfl (y_assign rfl rfl) ?_
  refine hl_nil ?_
  refine hq_then ?_
  refine hc_ret ?_
  exact hq_ret1 (()) rfl (rv_tmp rfl) rfl (fun _ h => Mm.pick h [] (by simp))

theorem mac_Check_ct (kl : List UInt8) (kv : Value) (tl : List UInt8) (tv : Value) (il : List UInt8) (iv : Value)  (w : World) (hk : Rd w kv (ls vb kl)) (hkm : kl.length ≤ 1000) (ht : Rd w tv (ls vb tl)) (htm : tl.length ≤ 90000) (hi : Rd w iv (ls vb il)) (hkl : KL w) : Ct0 Tryd.prog 46 #[kv, tv, iv] w (.bool (decide (hmacL kl tl = il))) := by
  refine ct0_of Tryd.func46 rfl Tryd.ntmps46 rfl ?_
  refine hc_seq ?_
  refine hc_region ?_
  refine hl_y rfl rfl rfl (y_assign rfl rfl) ?_
  refine hl_nil ?_
  refine hq_then ?_
  refine hc_seq ?_
  refine hc_region ?_
  refine hl_y rfl rfl rfl (y_move rfl rfl) ?_
  refine hl_y rfl rfl rfl (y_move rfl rfl) ?_
  refine hl_i rfl rfl rfl (e_call rfl F41 rfl (fun w hw => mac_Of_ct kl _ tl _ w ((rdF hk) w hw) (by first | omega | (simp only [List.length_append, List.length_take, List.length_drop, List.length_replicate, List.length_cons, List.length_nil, putL_len, shaL_len, overL_len, macKey_len, hmacL_len]; omega) | (simp only [List.length_append, List.length_take, List.length_drop, List.length_replicate, List.length_cons, List.length_nil, putL_len, shaL_len, overL_len, macKey_len, hmacL_len] at *; omega)) ((rdF ht) w hw) (by first | omega | (simp only [List.length_append, List.length_take, List.length_drop, List.length_replicate, List.length_cons, List.length_nil, putL_len, shaL_len, overL_len, macKey_len, hmacL_len]; omega) | (simp only [List.length_append, List.length_take, List.length_drop, List.length_replicate, List.length_cons, List.length_nil, putL_len, shaL_len, overL_len, macKey_len, hmacL_len] at *; omega)) (hkl.below (Mm.out hw).low)) rfl) ?_; intro y9
  refine hl_y rfl rfl rfl (y_move rfl rfl) ?_
  refine hl_i rfl rfl rfl (e_call0 rfl F76 rfl (fun w hw => bytes_Equal_ct _ _ _ _ w ((rdR 0 rfl) w hw) ((rdF hi) w hw)) rfl) ?_; intro _
  refine hl_y rfl rfl rfl (y_assign rfl rfl) ?_
  refine hl_nil ?_
  refine hq_then ?_
  refine hc_ret ?_
  exact hq_ret1 (()) rfl (rv_tmp rfl) rfl (fun _ h => Mm.pick h [] (by simp))

end Go.Proofs.YtcdidapkpfnphaaDoor
