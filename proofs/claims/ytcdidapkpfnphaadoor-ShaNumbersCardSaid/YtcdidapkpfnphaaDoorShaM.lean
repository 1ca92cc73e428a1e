/- The numbers of the rounds, and the law ShaNumbers: each call gives back true. -/
import Derived.Test.YtcdidapkpfnphaaDoorShaN
import Derived.Test.YtcdidapkpfnphaaDoorShaLaws
namespace Go.Proofs.YtcdidapkpfnphaaDoor
open Go.RowKit
set_option linter.unusedVariables false
set_option linter.unusedSimpArgs false
set_option maxRecDepth 100000
theorem sha_K_ct (n : Nat) (hn : n ≤ 9223372036854775807) (w : World) (hkl : KL w) : Ct0 Tryd.prog 35 #[vi n] w (vw (kG n)) := by
  refine ct0_of Tryd.func35 rfl Tryd.ntmps35 rfl ?_
  refine hc_seq ?_
  refine hc_region ?_
  refine hl_y rfl rfl rfl (y_assign (v := vw 0) rfl rfl) ?_
  refine hl_nil ?_
  refine hq_then ?_
  refine hc_seq ?_
  refine hc_seq ?_
  rcases Decidable.em (64 ≤ n) with c0 | c0
  · skip
    refine hc_region ?_
    refine hl_y rfl rfl rfl (y_move rfl rfl) ?_
    refine hl_y rfl rfl rfl (y_as (y_lssn (q := 0) rfl rfl rfl ) (congrArg Value.bool (decide_eq_false (by omega)))) ?_
    refine hl_y rfl rfl rfl (y_move rfl rfl) ?_
    refine hl_yg 2 5 false rfl rfl rfl rfl rfl (y_move rfl rfl) ?_
    refine hl_yg 2 5 false rfl rfl rfl rfl rfl (y_as (y_geqn (q := 64) rfl rfl rfl ) (congrArg Value.bool (decide_eq_true (by omega)))) ?_
    refine hl_y rfl rfl rfl (y_pick (b := false) rfl rfl rfl) ?_
    refine hl_nil ?_
    refine hq_then ?_
    refine hc_ifT rfl ?_
    refine hc_seq ?_
    refine hc_region ?_
    refine hl_y rfl rfl rfl (y_assign (v := vw 0) rfl rfl) ?_
    refine hl_nil ?_
    refine hq_then ?_
    refine hc_ret ?_
    exact hq_then_ret (hq_ret1 (()) rfl (rv_tmp rfl) (by rw [kG, if_neg (by omega)]) (fun _ h => Mm.pick h [] (by simp)))
  · skip
    refine hc_region ?_
    refine hl_y rfl rfl rfl (y_move rfl rfl) ?_
    refine hl_y rfl rfl rfl (y_as (y_lssn (q := 0) rfl rfl rfl ) (congrArg Value.bool (decide_eq_false (by omega)))) ?_
    refine hl_y rfl rfl rfl (y_move rfl rfl) ?_
    refine hl_yg 2 5 false rfl rfl rfl rfl rfl (y_move rfl rfl) ?_
    refine hl_yg 2 5 false rfl rfl rfl rfl rfl (y_as (y_geqn (q := 64) rfl rfl rfl ) (congrArg Value.bool (decide_eq_false (by omega)))) ?_
    refine hl_y rfl rfl rfl (y_pick (b := false) rfl rfl rfl) ?_
    refine hl_nil ?_
    refine hq_then ?_
    refine hc_ifF rfl ?_
    refine hc_skip ?_
    refine hq_then ?_
    refine hc_seq ?_
    refine hc_region ?_
    refine hl_y rfl rfl rfl (y_move rfl rfl) ?_
    refine hl_y rfl rfl rfl (y_ixa1 rfl T31 O28 rfl rfl (by first | omega | (simp only [ls_len, ns_len, List.length_append, List.length_take, List.length_drop, List.length_replicate, List.length_cons, List.length_nil, putL_len, shaL_len]; omega) | (simp only [ls_len, ns_len, List.length_append, List.length_take, List.length_drop, List.length_replicate, List.length_cons, List.length_nil, putL_len, shaL_len] at *; omega))) ?_
    refine hl_y rfl rfl rfl (y_ldk hkl rfl O28 rfl (by first | omega | (simp only [ls_len, ns_len, List.length_append, List.length_take, List.length_drop, List.length_replicate, List.length_cons, List.length_nil, putL_len, shaL_len]; omega) | (simp only [ls_len, ns_len, List.length_append, List.length_take, List.length_drop, List.length_replicate, List.length_cons, List.length_nil, putL_len, shaL_len] at *; omega))) ?_
    refine hl_y rfl rfl rfl (y_assign rfl rfl) ?_
    refine hl_nil ?_
    refine hq_then ?_
    refine hc_ret ?_
    exact hq_ret1 (()) rfl (rv_tmp rfl) (by rw [kG, if_pos (by omega)]) (fun _ h => Mm.pick h [] (by simp))

theorem sha_K_neg (n : Int) (hb : -9223372036854775808 ≤ n) (hn : n < 0) (w : World) : Ct0 Tryd.prog 35 #[.int .i64 n] w (vw 0) := by
  refine ct0_of Tryd.func35 rfl Tryd.ntmps35 rfl ?_
  refine hc_seq ?_
  refine hc_region ?_
  refine hl_y rfl rfl rfl (y_assign (v := vw 0) rfl rfl) ?_
  refine hl_nil ?_
  refine hq_then ?_
  refine hc_seq ?_
  refine hc_seq ?_
  refine hc_region ?_
  refine hl_y rfl rfl rfl (y_move rfl rfl) ?_
  refine hl_y rfl rfl rfl (y_as (y_lssi (q := 0) rfl rfl rfl ) (congrArg Value.bool (decide_eq_true (by omega)))) ?_
  refine hl_y rfl rfl rfl (y_move rfl rfl) ?_
  refine hl_no 2 5 false true rfl rfl rfl rfl rfl rfl ?_
  refine hl_no 2 5 false true rfl rfl rfl rfl rfl rfl ?_
  refine hl_y rfl rfl rfl (y_pick (b := true) rfl rfl rfl) ?_
  refine hl_nil ?_
  refine hq_then ?_
  refine hc_ifT rfl ?_
  refine hc_seq ?_
  refine hc_region ?_
  refine hl_y rfl rfl rfl (y_assign (v := vw 0) rfl rfl) ?_
  refine hl_nil ?_
  refine hq_then ?_
  refine hc_ret ?_
  exact hq_then_ret (hq_ret1 (()) rfl (rv_tmp rfl) rfl (fun _ h => Mm.pick h [] (by simp)))

theorem r07_K_ct (n : Nat) (hn : n ≤ 9223372036854775807) (w : World) : Ct0 Tryd.prog 36 #[vi n] w (vw (kG n)) := by
  refine ct0_of Tryd.func36 rfl Tryd.ntmps36 rfl ?_
  refine hc_seq ?_
  refine hc_region ?_
  refine hl_y rfl rfl rfl (y_assign (v := vw 0) rfl rfl) ?_
  refine hl_nil ?_
  refine hq_then ?_
  refine hc_seq ?_
  refine hc_seq ?_
  rcases Decidable.em (63 < n) with c0 | c0
  · skip
    refine hc_region ?_
    refine hl_y rfl rfl rfl (y_move rfl rfl) ?_
    refine hl_y rfl rfl rfl (y_as (y_lssn (q := 0) rfl rfl rfl ) (congrArg Value.bool (decide_eq_false (by omega)))) ?_
    refine hl_y rfl rfl rfl (y_move rfl rfl) ?_
    refine hl_yg 2 5 false rfl rfl rfl rfl rfl (y_move rfl rfl) ?_
    refine hl_yg 2 5 false rfl rfl rfl rfl rfl (y_as (y_gtrn (q := 63) rfl rfl rfl ) (congrArg Value.bool (decide_eq_true (by omega)))) ?_
    refine hl_y rfl rfl rfl (y_pick (b := false) rfl rfl rfl) ?_
    refine hl_nil ?_
    refine hq_then ?_
    refine hc_ifT rfl ?_
    refine hc_seq ?_
    refine hc_region ?_
    refine hl_y rfl rfl rfl (y_assign (v := vw 0) rfl rfl) ?_
    refine hl_nil ?_
    refine hq_then ?_
    refine hc_ret ?_
    exact hq_then_ret (hq_ret1 (()) rfl (rv_tmp rfl) (by rw [kG, if_neg (by omega)]) (fun _ h => Mm.pick h [] (by simp)))
  · skip
    refine hc_region ?_
    refine hl_y rfl rfl rfl (y_move rfl rfl) ?_
    refine hl_y rfl rfl rfl (y_as (y_lssn (q := 0) rfl rfl rfl ) (congrArg Value.bool (decide_eq_false (by omega)))) ?_
    refine hl_y rfl rfl rfl (y_move rfl rfl) ?_
    refine hl_yg 2 5 false rfl rfl rfl rfl rfl (y_move rfl rfl) ?_
    refine hl_yg 2 5 false rfl rfl rfl rfl rfl (y_as (y_gtrn (q := 63) rfl rfl rfl ) (congrArg Value.bool (decide_eq_false (by omega)))) ?_
    refine hl_y rfl rfl rfl (y_pick (b := false) rfl rfl rfl) ?_
    refine hl_nil ?_
    refine hq_then ?_
    refine hc_ifF rfl ?_
    refine hc_skip ?_
    refine hq_then ?_
    refine hc_seq ?_
    refine hc_region ?_
    refine hl_y rfl rfl rfl (y_move rfl rfl) ?_
    refine hl_i rfl rfl rfl (e_call0 rfl F71 rfl (fun w hw => r07_prime_ct n (by omega) w) rfl) ?_; intro _
    refine hl_i rfl rfl rfl (e_call0 rfl F70 rfl (fun w hw => r07_root3_ct _ (prime_lt _) w) rfl) ?_; intro _
    refine hl_y rfl rfl rfl (y_assign rfl rfl) ?_
    refine hl_nil ?_
    refine hq_then ?_
    refine hc_ret ?_
    exact hq_ret1 (()) rfl (rv_tmp rfl) (by rw [kG, if_pos (by omega), ← root_k n (by omega)]) (fun _ h => Mm.pick h [] (by simp))

theorem r07_K_neg (n : Int) (hb : -9223372036854775808 ≤ n) (hn : n < 0) (w : World) : Ct0 Tryd.prog 36 #[.int .i64 n] w (vw 0) := by
  refine ct0_of Tryd.func36 rfl Tryd.ntmps36 rfl ?_
  refine hc_seq ?_
  refine hc_region ?_
  refine hl_y rfl rfl rfl (y_assign (v := vw 0) rfl rfl) ?_
  refine hl_nil ?_
  refine hq_then ?_
  refine hc_seq ?_
  refine hc_seq ?_
  refine hc_region ?_
  refine hl_y rfl rfl rfl (y_move rfl rfl) ?_
  refine hl_y rfl rfl rfl (y_as (y_lssi (q := 0) rfl rfl rfl ) (congrArg Value.bool (decide_eq_true (by omega)))) ?_
  refine hl_y rfl rfl rfl (y_move rfl rfl) ?_
  refine hl_no 2 5 false true rfl rfl rfl rfl rfl rfl ?_
  refine hl_no 2 5 false true rfl rfl rfl rfl rfl rfl ?_
  refine hl_y rfl rfl rfl (y_pick (b := true) rfl rfl rfl) ?_
  refine hl_nil ?_
  refine hq_then ?_
  refine hc_ifT rfl ?_
  refine hc_seq ?_
  refine hc_region ?_
  refine hl_y rfl rfl rfl (y_assign (v := vw 0) rfl rfl) ?_
  refine hl_nil ?_
  refine hq_then ?_
  refine hc_ret ?_
  exact hq_then_ret (hq_ret1 (()) rfl (rv_tmp rfl) rfl (fun _ h => Mm.pick h [] (by simp)))

theorem r07_First_ct (w : World) : Ct0 Tryd.prog 37 #[] w (.agg (ns vw 8 (firstF)).toArray) := by
  refine ct0_of Tryd.func37 rfl Tryd.ntmps37 rfl ?_
  refine hc_seq ?_
  refine hc_region ?_
  refine hl_i rfl rfl rfl (e_alloc rfl Z29) ?_; intro g0
  refine hl_nil ?_
  refine hq_then ?_
  refine hc_seq ?_
  refine hc_region ?_
  refine hl_i rfl rfl rfl (e_alloc rfl Z29) ?_; intro g1
  refine hl_nil ?_
  refine hq_then ?_
  refine hc_seq ?_
  refine hc_seq ?_
  refine hc_region ?_
  refine hl_y rfl rfl rfl (y_assign (v := vi 0) rfl rfl) ?_
  refine hl_nil ?_
  refine hq_then ?_
  refine hc_block ?_
  refine hc_loop (fun k => k ≤ 8) (fun k => 8 - k) (fun k => [(0, .pointer (some ⟨g0, 0, none⟩)), (1, .pointer (some ⟨g1, 0, none⟩)), (2, vi k)]) (fun k => Mm w [.blk g1 29 (ns vw 8 (fun i => if i < k then firstF i else 0)), .blk g0 29 (ns vw 8 (fun _ => 0))]) (0) (by omega) ⟨rfl, rfl, lk_int rfl (by omega), trivial⟩ (fun _ h => h.mm (by simp)) ?_
  intro k hk
  refine hc_seq ?_
  refine hc_seq ?_
  refine hc_region ?_
  refine hl_y rfl rfl rfl (y_move rfl rfl) ?_
  refine hl_y rfl rfl rfl (y_lssn (q := 8) rfl rfl rfl ) ?_
  refine hl_nil ?_
  refine hq_then ?_
  refine hc_if rfl (fun c0 => ?_) (fun c0 => ?_)
  · replace c0 := of_decide_eq_true c0
    refine hc_skip ?_
    refine hq_then ?_
    refine hc_seq ?_
    refine hc_block ?_
    refine hc_region ?_
    refine hl_y rfl rfl rfl (y_move rfl rfl) ?_
    refine hl_y rfl rfl rfl (y_move rfl rfl) ?_
    refine hl_i rfl rfl rfl (e_call0 rfl F71 rfl (fun w hw => r07_prime_ct k (by omega) w) rfl) ?_; intro _
    refine hl_i rfl rfl rfl (e_call0 rfl F70 rfl (fun w hw => r07_root2_ct _ (prime_lt _) w) rfl) ?_; intro _
    refine hl_y rfl rfl rfl (y_ixa1 rfl T29 O28 rfl rfl (by first | omega | (simp only [ls_len, ns_len, List.length_append, List.length_take, List.length_drop, List.length_replicate, List.length_cons, List.length_nil, putL_len, shaL_len]; omega) | (simp only [ls_len, ns_len, List.length_append, List.length_take, List.length_drop, List.length_replicate, List.length_cons, List.length_nil, putL_len, shaL_len] at *; omega))) ?_
    refine hl_i0 rfl rfl (e_stn 0 rfl O28.2 rfl rfl rfl rfl (by first | omega | (simp only [ls_len, ns_len, List.length_append, List.length_take, List.length_drop, List.length_replicate, List.length_cons, List.length_nil, putL_len, shaL_len]; omega) | (simp only [ls_len, ns_len, List.length_append, List.length_take, List.length_drop, List.length_replicate, List.length_cons, List.length_nil, putL_len, shaL_len] at *; omega))) ?_; intro _
    refine hl_nil ?_
    refine hq_in (hq_then ?_)
    refine hc_region ?_
    refine hl_y rfl rfl rfl (y_move rfl rfl) ?_
    refine hl_y rfl rfl rfl (y_addn (q := 1) rfl rfl rfl (by first | omega | (simp only [ls_len, ns_len, List.length_append, List.length_take, List.length_drop, List.length_replicate, List.length_cons, List.length_nil, putL_len, shaL_len]; omega) | (simp only [ls_len, ns_len, List.length_append, List.length_take, List.length_drop, List.length_replicate, List.length_cons, List.length_nil, putL_len, shaL_len] at *; omega))) ?_
    refine hl_y rfl rfl rfl (y_assign rfl rfl) ?_
    refine hl_nil ?_
    exact hq_round (k + 1) (by omega) (by omega) ⟨rfl, rfl, lk_int rfl (by omega), trivial⟩ (fun _ h => Mm.set h 0 rfl (ns_step (f := firstF) (g := fun _ => 0) (root_f k (by omega))))
  · replace c0 := of_decide_eq_false c0
    refine hc_exit ?_
    refine hq_then_exit (hq_loop_exit (hq_in_same (hq_then ?_)))
    refine hc_seq ?_
    refine hc_region ?_
    refine hl_y rfl rfl rfl (y_ldw 0 rfl T29 rfl rfl) ?_
    refine hl_i0 rfl rfl (e_stw 1 rfl T29.2 rfl rfl rfl (ns_onew _ _)) ?_; intro _
    refine hl_nil ?_
    refine hq_then ?_
    refine hc_ret ?_
    exact hq_ret1 (()) rfl (rv_arr 1 rfl T29 rfl (ns_len _ _).symm) (by rw [ns_full (by omega)]) (fun _ h => Mm.pick h [] (by simp))

theorem r07_Ks_ct (w : World) : Ct0 Tryd.prog 38 #[] w (.agg (ns vw 64 (kT)).toArray) := by
  refine ct0_of Tryd.func38 rfl Tryd.ntmps38 rfl ?_
  refine hc_seq ?_
  refine hc_region ?_
  refine hl_i rfl rfl rfl (e_alloc rfl Z31) ?_; intro g0
  refine hl_nil ?_
  refine hq_then ?_
  refine hc_seq ?_
  refine hc_region ?_
  refine hl_i rfl rfl rfl (e_alloc rfl Z31) ?_; intro g1
  refine hl_nil ?_
  refine hq_then ?_
  refine hc_seq ?_
  refine hc_seq ?_
  refine hc_region ?_
  refine hl_y rfl rfl rfl (y_assign (v := vi 0) rfl rfl) ?_
  refine hl_nil ?_
  refine hq_then ?_
  refine hc_block ?_
  refine hc_loop (fun k => k ≤ 64) (fun k => 64 - k) (fun k => [(0, .pointer (some ⟨g0, 0, none⟩)), (1, .pointer (some ⟨g1, 0, none⟩)), (2, vi k)]) (fun k => Mm w [.blk g1 31 (ns vw 64 (fun i => if i < k then kT i else 0)), .blk g0 31 (ns vw 64 (fun _ => 0))]) (0) (by omega) ⟨rfl, rfl, lk_int rfl (by omega), trivial⟩ (fun _ h => h.mm (by simp)) ?_
  intro k hk
  refine hc_seq ?_
  refine hc_seq ?_
  refine hc_region ?_
  refine hl_y rfl rfl rfl (y_move rfl rfl) ?_
  refine hl_y rfl rfl rfl (y_lssn (q := 64) rfl rfl rfl ) ?_
  refine hl_nil ?_
  refine hq_then ?_
  refine hc_if rfl (fun c0 => ?_) (fun c0 => ?_)
  · replace c0 := of_decide_eq_true c0
    refine hc_skip ?_
    refine hq_then ?_
    refine hc_seq ?_
    refine hc_block ?_
    refine hc_region ?_
    refine hl_y rfl rfl rfl (y_move rfl rfl) ?_
    refine hl_y rfl rfl rfl (y_move rfl rfl) ?_
    refine hl_i rfl rfl rfl (e_call0 rfl F36 rfl (fun w hw => r07_K_ct k (by omega) w) rfl) ?_; intro _
    refine hl_y rfl rfl rfl (y_ixa1 rfl T31 O28 rfl rfl (by first | omega | (simp only [ls_len, ns_len, List.length_append, List.length_take, List.length_drop, List.length_replicate, List.length_cons, List.length_nil, putL_len, shaL_len]; omega) | (simp only [ls_len, ns_len, List.length_append, List.length_take, List.length_drop, List.length_replicate, List.length_cons, List.length_nil, putL_len, shaL_len] at *; omega))) ?_
    refine hl_i0 rfl rfl (e_stn 0 rfl O28.2 rfl rfl rfl rfl (by first | omega | (simp only [ls_len, ns_len, List.length_append, List.length_take, List.length_drop, List.length_replicate, List.length_cons, List.length_nil, putL_len, shaL_len]; omega) | (simp only [ls_len, ns_len, List.length_append, List.length_take, List.length_drop, List.length_replicate, List.length_cons, List.length_nil, putL_len, shaL_len] at *; omega))) ?_; intro _
    refine hl_nil ?_
    refine hq_in (hq_then ?_)
    refine hc_region ?_
    refine hl_y rfl rfl rfl (y_move rfl rfl) ?_
    refine hl_y rfl rfl rfl (y_addn (q := 1) rfl rfl rfl (by first | omega | (simp only [ls_len, ns_len, List.length_append, List.length_take, List.length_drop, List.length_replicate, List.length_cons, List.length_nil, putL_len, shaL_len]; omega) | (simp only [ls_len, ns_len, List.length_append, List.length_take, List.length_drop, List.length_replicate, List.length_cons, List.length_nil, putL_len, shaL_len] at *; omega))) ?_
    refine hl_y rfl rfl rfl (y_assign rfl rfl) ?_
    refine hl_nil ?_
    exact hq_round (k + 1) (by omega) (by omega) ⟨rfl, rfl, lk_int rfl (by omega), trivial⟩ (fun _ h => Mm.set h 0 rfl (ns_step (f := kT) (g := fun _ => 0) (if_pos (by omega))))
  · replace c0 := of_decide_eq_false c0
    refine hc_exit ?_
    refine hq_then_exit (hq_loop_exit (hq_in_same (hq_then ?_)))
    refine hc_seq ?_
    refine hc_region ?_
    refine hl_y rfl rfl rfl (y_ldw 0 rfl T31 rfl rfl) ?_
    refine hl_i0 rfl rfl (e_stw 1 rfl T31.2 rfl rfl rfl (ns_onew _ _)) ?_; intro _
    refine hl_nil ?_
    refine hq_then ?_
    refine hc_ret ?_
    exact hq_ret1 (()) rfl (rv_arr 1 rfl T31 rfl (ns_len _ _).symm) (by rw [ns_full (by omega)]) (fun _ h => Mm.pick h [] (by simp))

theorem shaNumbers_p (n : Nat) (hn : n ≤ 9223372036854775807) (w : World) (hkl : KL w) : Ct0 Tryd.prog 8 #[vi n] w (.bool true) := by
  refine ct0_of Tryd.func8 rfl Tryd.ntmps8 rfl ?_
  refine hc_seq ?_
  refine hc_region ?_
  refine hl_y rfl rfl rfl (y_assign rfl rfl) ?_
  refine hl_nil ?_
  refine hq_then ?_
  refine hc_seq ?_
  refine hc_region ?_
  refine hl_y rfl rfl rfl (y_move rfl rfl) ?_
  refine hl_i rfl rfl rfl (e_call0 rfl F35 rfl (fun w hw => sha_K_ct n (by omega) w (hkl.below (Mm.out hw).low)) rfl) ?_; intro _
  refine hl_y rfl rfl rfl (y_move rfl rfl) ?_
  refine hl_i rfl rfl rfl (e_call0 rfl F36 rfl (fun w hw => r07_K_ct n (by omega) w) rfl) ?_; intro _
  refine hl_y rfl rfl rfl (y_as (y_eqlw rfl rfl rfl) (congrArg Value.bool (decide_eq_true (rfl)))) ?_
  refine hl_y rfl rfl rfl (y_move rfl rfl) ?_
  refine hl_ig 5 8 true rfl rfl rfl rfl rfl (e_call0 rfl F33 rfl (fun w hw => sha_First_ct w) rfl) ?_; intro _
  refine hl_ig 5 8 true rfl rfl rfl rfl rfl (e_call0 rfl F37 rfl (fun w hw => r07_First_ct w) rfl) ?_; intro _
  refine hl_yg 5 8 true rfl rfl rfl rfl rfl (y_as (y_eqlarr Q29 rfl rfl rfl) (congrArg Value.bool (eqn_true (fun _ _ => rfl)))) ?_
  refine hl_y rfl rfl rfl (y_pick (b := true) rfl rfl rfl) ?_
  refine hl_y rfl rfl rfl (y_move rfl rfl) ?_
  refine hl_ig 10 13 true rfl rfl rfl rfl rfl (e_call0 rfl F27 rfl (fun w hw => r07_Table_ct w) rfl) ?_; intro _
  refine hl_ig 10 13 true rfl rfl rfl rfl rfl (e_call0 rfl F38 rfl (fun w hw => r07_Ks_ct w) rfl) ?_; intro _
  refine hl_yg 10 13 true rfl rfl rfl rfl rfl (y_as (y_eqlarr Q31 rfl rfl rfl) (congrArg Value.bool (eqn_true (fun _ _ => rfl)))) ?_
  refine hl_y rfl rfl rfl (y_pick (b := true) rfl rfl rfl) ?_
  refine hl_y rfl rfl rfl (y_move rfl rfl) ?_
  refine hl_ig 15 18 true rfl rfl rfl rfl rfl (e_call0 rfl F20 rfl (fun w hw => law07_alive_ct w (hkl.below (Mm.out hw).low)) rfl) ?_; intro _
  refine hl_y rfl rfl rfl (y_pick (b := true) rfl rfl rfl) ?_
  refine hl_y rfl rfl rfl (y_assign rfl rfl) ?_
  refine hl_nil ?_
  refine hq_then ?_
  refine hc_ret ?_
  exact hq_ret1 (()) rfl (rv_tmp rfl) rfl (fun _ h => Mm.pick h [] (by simp))

theorem shaNumbers_n (n : Int) (hb : -9223372036854775808 ≤ n) (hn : n < 0) (w : World) (hkl : KL w) : Ct0 Tryd.prog 8 #[.int .i64 n] w (.bool true) := by
  refine ct0_of Tryd.func8 rfl Tryd.ntmps8 rfl ?_
  refine hc_seq ?_
  refine hc_region ?_
  refine hl_y rfl rfl rfl (y_assign rfl rfl) ?_
  refine hl_nil ?_
  refine hq_then ?_
  refine hc_seq ?_
  refine hc_region ?_
  refine hl_y rfl rfl rfl (y_move rfl rfl) ?_
  refine hl_i rfl rfl rfl (e_call0 rfl F35 rfl (fun w hw => sha_K_neg _ (by omega) (by omega) w) rfl) ?_; intro _
  refine hl_y rfl rfl rfl (y_move rfl rfl) ?_
  refine hl_i rfl rfl rfl (e_call0 rfl F36 rfl (fun w hw => r07_K_neg _ (by omega) (by omega) w) rfl) ?_; intro _
  refine hl_y rfl rfl rfl (y_as (y_eqlw rfl rfl rfl) (congrArg Value.bool (decide_eq_true (rfl)))) ?_
  refine hl_y rfl rfl rfl (y_move rfl rfl) ?_
  refine hl_ig 5 8 true rfl rfl rfl rfl rfl (e_call0 rfl F33 rfl (fun w hw => sha_First_ct w) rfl) ?_; intro _
  refine hl_ig 5 8 true rfl rfl rfl rfl rfl (e_call0 rfl F37 rfl (fun w hw => r07_First_ct w) rfl) ?_; intro _
  refine hl_yg 5 8 true rfl rfl rfl rfl rfl (y_as (y_eqlarr Q29 rfl rfl rfl) (congrArg Value.bool (eqn_true (fun _ _ => rfl)))) ?_
  refine hl_y rfl rfl rfl (y_pick (b := true) rfl rfl rfl) ?_
  refine hl_y rfl rfl rfl (y_move rfl rfl) ?_
  refine hl_ig 10 13 true rfl rfl rfl rfl rfl (e_call0 rfl F27 rfl (fun w hw => r07_Table_ct w) rfl) ?_; intro _
  refine hl_ig 10 13 true rfl rfl rfl rfl rfl (e_call0 rfl F38 rfl (fun w hw => r07_Ks_ct w) rfl) ?_; intro _
  refine hl_yg 10 13 true rfl rfl rfl rfl rfl (y_as (y_eqlarr Q31 rfl rfl rfl) (congrArg Value.bool (eqn_true (fun _ _ => rfl)))) ?_
  refine hl_y rfl rfl rfl (y_pick (b := true) rfl rfl rfl) ?_
  refine hl_y rfl rfl rfl (y_move rfl rfl) ?_
  refine hl_ig 15 18 true rfl rfl rfl rfl rfl (e_call0 rfl F20 rfl (fun w hw => law07_alive_ct w (hkl.below (Mm.out hw).low)) rfl) ?_; intro _
  refine hl_y rfl rfl rfl (y_pick (b := true) rfl rfl rfl) ?_
  refine hl_y rfl rfl rfl (y_assign rfl rfl) ?_
  refine hl_nil ?_
  refine hq_then ?_
  refine hc_ret ?_
  exact hq_ret1 (()) rfl (rv_tmp rfl) rfl (fun _ h => Mm.pick h [] (by simp))

end Go.Proofs.YtcdidapkpfnphaaDoor
