/- Wide numbers, roots and primes of the document: what each call gives back. -/
import Derived.Test.YtcdidapkpfnphaaDoorShaE
import Derived.Test.YtcdidapkpfnphaaDoorSpecNum
namespace Go.Proofs.YtcdidapkpfnphaaDoor
open Go.RowKit
set_option linter.unusedVariables false
set_option linter.unusedSimpArgs false
set_option maxRecDepth 100000
theorem r07_times_ct (A n : Nat) (hn : n < 68719476736) (w : World) : Ct0 Tryd.prog 87 #[.agg (ns vq 5 (digF A)).toArray, vq (uq n)] w (.agg (ns vq 5 (digF (A * n))).toArray) := by
  refine ct0_of Tryd.func87 rfl Tryd.ntmps87 rfl ?_
  refine hc_seq ?_
  refine hc_region ?_
  refine hl_i rfl rfl rfl (e_boxa rfl rfl) ?_; intro g2
  refine hl_i rfl rfl rfl (e_alloc rfl Z77) ?_; intro g4
  refine hl_nil ?_
  refine hq_then ?_
  refine hc_seq ?_
  refine hc_region ?_
  refine hl_i rfl rfl rfl (e_alloc rfl Z77) ?_; intro g5
  refine hl_nil ?_
  refine hq_then ?_
  refine hc_seq ?_
  refine hc_region ?_
  refine hl_y rfl rfl rfl (y_move rfl rfl) ?_
  refine hl_y rfl rfl rfl (y_as (y_remq (q := 65536) rfl rfl rfl (by decide)) (congrArg vq (uq_mod (n := 65536) (by omega) (by decide)))) ?_
  refine hl_y rfl rfl rfl (y_move rfl rfl) ?_
  refine hl_y rfl rfl rfl (y_as (y_quoq (q := 65536) rfl rfl rfl (by decide)) (congrArg vq (uq_div (n := 65536) (by omega) (by decide)))) ?_
  refine hl_y rfl rfl rfl (y_assign rfl rfl) ?_
  refine hl_y rfl rfl rfl (y_assign rfl rfl) ?_
  refine hl_nil ?_
  refine hq_then ?_
  refine hc_seq ?_
  refine hc_region ?_
  refine hl_y rfl rfl rfl (y_assign (v := vq 0) rfl rfl) ?_
  refine hl_nil ?_
  refine hq_then ?_
  refine hc_seq ?_
  refine hc_seq ?_
  refine hc_region ?_
  refine hl_y rfl rfl rfl (y_assign (v := vi 0) rfl rfl) ?_
  refine hl_nil ?_
  refine hq_then ?_
  refine hc_block ?_
  refine hc_loop (fun k => k ≤ 5) (fun k => 5 - k) (fun k => [(2, .pointer (some ⟨g2, 0, none⟩)), (4, .pointer (some ⟨g4, 0, none⟩)), (5, .pointer (some ⟨g5, 0, none⟩)), (6, vq (uq (n % 65536))), (7, vq (uq (n / 65536))), (8, vq (uq (carN A (n % 65536) k))), (9, vi k)]) (fun k => Mm w [.blk g5 77 (ns vq 5 (fun i => if i < k then digF (A * (n % 65536)) i else 0)), .blk g4 77 (ns vq 5 (fun _ => 0)), .blk g2 77 (ns vq 5 (digF A))]) (0) (by omega) ⟨rfl, rfl, rfl, rfl, rfl, lk_eq rfl (congrArg (fun z => vq (uq z)) (car_zero _ _).symm), lk_int rfl (by omega), trivial⟩ (fun _ h => h.mm (by simp)) ?_
  intro k hk
  refine hc_seq ?_
  refine hc_seq ?_
  refine hc_region ?_
  refine hl_y rfl rfl rfl (y_move rfl rfl) ?_
  refine hl_y rfl rfl rfl (y_lssn (q := 5) rfl rfl rfl ) ?_
  refine hl_nil ?_
  refine hq_then ?_
  refine hc_if rfl (fun c0 => ?_) (fun c0 => ?_)
  · replace c0 := of_decide_eq_true c0
    refine hc_skip ?_
    refine hq_then ?_
    refine hc_seq ?_
    refine hc_block ?_
    refine hc_seq ?_
    refine hc_region ?_
    refine hl_y rfl rfl rfl (y_move rfl rfl) ?_
    refine hl_y rfl rfl rfl (y_ixa1 rfl T77 O45 rfl rfl (by first | omega | (simp only [ls_len, ns_len, List.length_append, List.length_take, List.length_drop, List.length_replicate, List.length_cons, List.length_nil, putL_len, shaL_len]; omega) | (simp only [ls_len, ns_len, List.length_append, List.length_take, List.length_drop, List.length_replicate, List.length_cons, List.length_nil, putL_len, shaL_len] at *; omega))) ?_
    refine hl_y rfl rfl rfl (y_ldn 2 rfl O45 rfl rfl (by first | omega | (simp only [ls_len, ns_len, List.length_append, List.length_take, List.length_drop, List.length_replicate, List.length_cons, List.length_nil, putL_len, shaL_len]; omega) | (simp only [ls_len, ns_len, List.length_append, List.length_take, List.length_drop, List.length_replicate, List.length_cons, List.length_nil, putL_len, shaL_len] at *; omega))) ?_
    refine hl_y rfl rfl rfl (y_move rfl rfl) ?_
    refine hl_y rfl rfl rfl (y_mulq rfl rfl rfl) ?_
    refine hl_y rfl rfl rfl (y_move rfl rfl) ?_
    refine hl_y rfl rfl rfl (y_as (y_addq rfl rfl rfl) (congrArg vq (tm_x))) ?_
    refine hl_y rfl rfl rfl (y_assign rfl rfl) ?_
    refine hl_nil ?_
    refine hq_then ?_
    refine hc_seq ?_
    refine hc_region ?_
    refine hl_y rfl rfl rfl (y_move rfl rfl) ?_
    refine hl_y rfl rfl rfl (y_move rfl rfl) ?_
    refine hl_y rfl rfl rfl (y_as (y_remq (q := 4294967296) rfl rfl rfl (by decide)) (congrArg vq (tm_lo (by omega)))) ?_
    refine hl_y rfl rfl rfl (y_ixa1 rfl T77 O45 rfl rfl (by first | omega | (simp only [ls_len, ns_len, List.length_append, List.length_take, List.length_drop, List.length_replicate, List.length_cons, List.length_nil, putL_len, shaL_len]; omega) | (simp only [ls_len, ns_len, List.length_append, List.length_take, List.length_drop, List.length_replicate, List.length_cons, List.length_nil, putL_len, shaL_len] at *; omega))) ?_
    refine hl_i0 rfl rfl (e_stn 0 rfl O45.2 rfl rfl rfl rfl (by first | omega | (simp only [ls_len, ns_len, List.length_append, List.length_take, List.length_drop, List.length_replicate, List.length_cons, List.length_nil, putL_len, shaL_len]; omega) | (simp only [ls_len, ns_len, List.length_append, List.length_take, List.length_drop, List.length_replicate, List.length_cons, List.length_nil, putL_len, shaL_len] at *; omega))) ?_; intro _
    refine hl_nil ?_
    refine hq_then ?_
    refine hc_region ?_
    refine hl_y rfl rfl rfl (y_move rfl rfl) ?_
    refine hl_y rfl rfl rfl (y_as (y_shrq (m := 32) rfl rfl rfl rfl (by first | omega | (simp only [ls_len, ns_len, List.length_append, List.length_take, List.length_drop, List.length_replicate, List.length_cons, List.length_nil, putL_len, shaL_len]; omega) | (simp only [ls_len, ns_len, List.length_append, List.length_take, List.length_drop, List.length_replicate, List.length_cons, List.length_nil, putL_len, shaL_len] at *; omega))) (congrArg vq (tm_hi (by omega)))) ?_
    refine hl_y rfl rfl rfl (y_assign rfl rfl) ?_
    refine hl_nil ?_
    refine hq_in (hq_then ?_)
    refine hc_region ?_
    refine hl_y rfl rfl rfl (y_move rfl rfl) ?_
    refine hl_y rfl rfl rfl (y_addn (q := 1) rfl rfl rfl (by first | omega | (simp only [ls_len, ns_len, List.length_append, List.length_take, List.length_drop, List.length_replicate, List.length_cons, List.length_nil, putL_len, shaL_len]; omega) | (simp only [ls_len, ns_len, List.length_append, List.length_take, List.length_drop, List.length_replicate, List.length_cons, List.length_nil, putL_len, shaL_len] at *; omega))) ?_
    refine hl_y rfl rfl rfl (y_assign rfl rfl) ?_
    refine hl_nil ?_
    exact hq_round (k + 1) (by omega) (by omega) ⟨rfl, rfl, rfl, rfl, rfl, rfl, lk_int rfl (by omega), trivial⟩ (fun _ h => Mm.set h 0 rfl (ns_step (f := digF (A * (n % 65536))) (g := fun _ => 0) rfl))
  · replace c0 := of_decide_eq_false c0
    refine hc_exit ?_
    refine hq_then_exit (hq_loop_exit (hq_in_same (hq_then ?_)))
    refine hc_seq ?_
    refine hc_region ?_
    refine hl_y rfl rfl rfl (y_assign (v := vq 0) rfl rfl) ?_
    refine hl_nil ?_
    refine hq_then ?_
    refine hc_seq ?_
    refine hc_region ?_
    refine hl_y rfl rfl rfl (y_assign (v := vq 0) rfl rfl) ?_
    refine hl_nil ?_
    refine hq_then ?_
    refine hc_seq ?_
    refine hc_seq ?_
    refine hc_region ?_
    refine hl_y rfl rfl rfl (y_assign (v := vi 0) rfl rfl) ?_
    refine hl_nil ?_
    refine hq_then ?_
    refine hc_block ?_
    refine hc_loop (fun k => k ≤ 5) (fun k => 5 - k) (fun k => [(2, .pointer (some ⟨g2, 0, none⟩)), (4, .pointer (some ⟨g4, 0, none⟩)), (5, .pointer (some ⟨g5, 0, none⟩)), (7, vq (uq (n / 65536))), (8, vq (uq (carN A (n / 65536) k))), (11, vq (uq (shN (A * (n / 65536)) (A * (n % 65536)) k))), (12, vi k)]) (fun k => Mm w [.blk g5 77 (ns vq 5 (fun i => if i < k then digF (A * n) i else digF (A * (n % 65536)) i)), .blk g4 77 (ns vq 5 (fun _ => 0)), .blk g2 77 (ns vq 5 (digF A))]) (0) (by omega) ⟨rfl, rfl, rfl, rfl, lk_eq rfl (congrArg (fun z => vq (uq z)) (car_zero _ _).symm), lk_eq rfl (congrArg (fun z => vq (uq z)) (sh_zero _ _).symm), lk_int rfl (by omega), trivial⟩ (fun _ h => Mm.set h 0 rfl ((ns_full (by omega)).trans ns_zero.symm)) ?_
    intro k hk
    refine hc_seq ?_
    refine hc_seq ?_
    refine hc_region ?_
    refine hl_y rfl rfl rfl (y_move rfl rfl) ?_
    refine hl_y rfl rfl rfl (y_lssn (q := 5) rfl rfl rfl ) ?_
    refine hl_nil ?_
    refine hq_then ?_
    refine hc_if rfl (fun c1 => ?_) (fun c1 => ?_)
    · replace c1 := of_decide_eq_true c1
      refine hc_skip ?_
      refine hq_then ?_
      refine hc_seq ?_
      refine hc_block ?_
      refine hc_seq ?_
      refine hc_region ?_
      refine hl_y rfl rfl rfl (y_move rfl rfl) ?_
      refine hl_y rfl rfl rfl (y_ixa1 rfl T77 O45 rfl rfl (by first | omega | (simp only [ls_len, ns_len, List.length_append, List.length_take, List.length_drop, List.length_replicate, List.length_cons, List.length_nil, putL_len, shaL_len]; omega) | (simp only [ls_len, ns_len, List.length_append, List.length_take, List.length_drop, List.length_replicate, List.length_cons, List.length_nil, putL_len, shaL_len] at *; omega))) ?_
      refine hl_y rfl rfl rfl (y_ldn 2 rfl O45 rfl rfl (by first | omega | (simp only [ls_len, ns_len, List.length_append, List.length_take, List.length_drop, List.length_replicate, List.length_cons, List.length_nil, putL_len, shaL_len]; omega) | (simp only [ls_len, ns_len, List.length_append, List.length_take, List.length_drop, List.length_replicate, List.length_cons, List.length_nil, putL_len, shaL_len] at *; omega))) ?_
      refine hl_y rfl rfl rfl (y_move rfl rfl) ?_
      refine hl_y rfl rfl rfl (y_mulq rfl rfl rfl) ?_
      refine hl_y rfl rfl rfl (y_move rfl rfl) ?_
      refine hl_y rfl rfl rfl (y_as (y_addq rfl rfl rfl) (congrArg vq (tm_x))) ?_
      refine hl_y rfl rfl rfl (y_assign rfl rfl) ?_
      refine hl_nil ?_
      refine hq_then ?_
      refine hc_seq ?_
      refine hc_region ?_
      refine hl_y rfl rfl rfl (y_move rfl rfl) ?_
      refine hl_y rfl rfl rfl (y_as (y_remq (q := 4294967296) rfl rfl rfl (by decide)) (congrArg vq (tm_lo (by omega)))) ?_
      refine hl_y rfl rfl rfl (y_shlq (m := 16) rfl rfl rfl rfl (by first | omega | (simp only [ls_len, ns_len, List.length_append, List.length_take, List.length_drop, List.length_replicate, List.length_cons, List.length_nil, putL_len, shaL_len]; omega) | (simp only [ls_len, ns_len, List.length_append, List.length_take, List.length_drop, List.length_replicate, List.length_cons, List.length_nil, putL_len, shaL_len] at *; omega))) ?_
      refine hl_y rfl rfl rfl (y_move rfl rfl) ?_
      refine hl_y rfl rfl rfl (y_addq rfl rfl rfl) ?_
      refine hl_y rfl rfl rfl (y_move rfl rfl) ?_
      refine hl_y rfl rfl rfl (y_ixa1 rfl T77 O45 rfl rfl (by first | omega | (simp only [ls_len, ns_len, List.length_append, List.length_take, List.length_drop, List.length_replicate, List.length_cons, List.length_nil, putL_len, shaL_len]; omega) | (simp only [ls_len, ns_len, List.length_append, List.length_take, List.length_drop, List.length_replicate, List.length_cons, List.length_nil, putL_len, shaL_len] at *; omega))) ?_
      refine hl_y rfl rfl rfl (y_as (y_ldn 0 rfl O45 rfl rfl (by first | omega | (simp only [ls_len, ns_len, List.length_append, List.length_take, List.length_drop, List.length_replicate, List.length_cons, List.length_nil, putL_len, shaL_len]; omega) | (simp only [ls_len, ns_len, List.length_append, List.length_take, List.length_drop, List.length_replicate, List.length_cons, List.length_nil, putL_len, shaL_len] at *; omega))) (congrArg vq (if_neg (by omega)))) ?_
      refine hl_y rfl rfl rfl (y_as (y_addq rfl rfl rfl) (congrArg vq (tm_y))) ?_
      refine hl_y rfl rfl rfl (y_assign rfl rfl) ?_
      refine hl_nil ?_
      refine hq_then ?_
      refine hc_seq ?_
      refine hc_region ?_
      refine hl_y rfl rfl rfl (y_move rfl rfl) ?_
      refine hl_y rfl rfl rfl (y_move rfl rfl) ?_
      refine hl_y rfl rfl rfl (y_as (y_remq (q := 4294967296) rfl rfl rfl (by decide)) (congrArg vq (tm_ylo))) ?_
      refine hl_y rfl rfl rfl (y_ixa1 rfl T77 O45 rfl rfl (by first | omega | (simp only [ls_len, ns_len, List.length_append, List.length_take, List.length_drop, List.length_replicate, List.length_cons, List.length_nil, putL_len, shaL_len]; omega) | (simp only [ls_len, ns_len, List.length_append, List.length_take, List.length_drop, List.length_replicate, List.length_cons, List.length_nil, putL_len, shaL_len] at *; omega))) ?_
      refine hl_i0 rfl rfl (e_stn 0 rfl O45.2 rfl rfl rfl rfl (by first | omega | (simp only [ls_len, ns_len, List.length_append, List.length_take, List.length_drop, List.length_replicate, List.length_cons, List.length_nil, putL_len, shaL_len]; omega) | (simp only [ls_len, ns_len, List.length_append, List.length_take, List.length_drop, List.length_replicate, List.length_cons, List.length_nil, putL_len, shaL_len] at *; omega))) ?_; intro _
      refine hl_nil ?_
      refine hq_then ?_
      refine hc_seq ?_
      refine hc_region ?_
      refine hl_y rfl rfl rfl (y_move rfl rfl) ?_
      refine hl_y rfl rfl rfl (y_as (y_shrq (m := 32) rfl rfl rfl rfl (by first | omega | (simp only [ls_len, ns_len, List.length_append, List.length_take, List.length_drop, List.length_replicate, List.length_cons, List.length_nil, putL_len, shaL_len]; omega) | (simp only [ls_len, ns_len, List.length_append, List.length_take, List.length_drop, List.length_replicate, List.length_cons, List.length_nil, putL_len, shaL_len] at *; omega))) (congrArg vq (tm_yhi))) ?_
      refine hl_y rfl rfl rfl (y_assign rfl rfl) ?_
      refine hl_nil ?_
      refine hq_then ?_
      refine hc_region ?_
      refine hl_y rfl rfl rfl (y_move rfl rfl) ?_
      refine hl_y rfl rfl rfl (y_as (y_shrq (m := 32) rfl rfl rfl rfl (by first | omega | (simp only [ls_len, ns_len, List.length_append, List.length_take, List.length_drop, List.length_replicate, List.length_cons, List.length_nil, putL_len, shaL_len]; omega) | (simp only [ls_len, ns_len, List.length_append, List.length_take, List.length_drop, List.length_replicate, List.length_cons, List.length_nil, putL_len, shaL_len] at *; omega))) (congrArg vq (tm_hi (by omega)))) ?_
      refine hl_y rfl rfl rfl (y_assign rfl rfl) ?_
      refine hl_nil ?_
      refine hq_in (hq_then ?_)
      refine hc_region ?_
      refine hl_y rfl rfl rfl (y_move rfl rfl) ?_
      refine hl_y rfl rfl rfl (y_addn (q := 1) rfl rfl rfl (by first | omega | (simp only [ls_len, ns_len, List.length_append, List.length_take, List.length_drop, List.length_replicate, List.length_cons, List.length_nil, putL_len, shaL_len]; omega) | (simp only [ls_len, ns_len, List.length_append, List.length_take, List.length_drop, List.length_replicate, List.length_cons, List.length_nil, putL_len, shaL_len] at *; omega))) ?_
      refine hl_y rfl rfl rfl (y_assign rfl rfl) ?_
      refine hl_nil ?_
      exact hq_round (k + 1) (by omega) (by omega) ⟨rfl, rfl, rfl, rfl, rfl, rfl, lk_int rfl (by omega), trivial⟩ (fun _ h => Mm.set h 0 rfl (ns_step (f := digF (A * n)) (g := digF (A * (n % 65536))) (by rw [tm_all])))
    · replace c1 := of_decide_eq_false c1
      refine hc_exit ?_
      refine hq_then_exit (hq_loop_exit (hq_in_same (hq_then ?_)))
      refine hc_seq ?_
      refine hc_region ?_
      refine hl_y rfl rfl rfl (y_ldw 0 rfl T77 rfl rfl) ?_
      refine hl_i0 rfl rfl (e_stw 1 rfl T77.2 rfl rfl rfl (ns_oneq _ _)) ?_; intro _
      refine hl_nil ?_
      refine hq_then ?_
      refine hc_ret ?_
      exact hq_ret1 (()) rfl (rv_arr 1 rfl T77 rfl (ns_len _ _).symm) (by rw [ns_full (by omega)]) (fun _ h => Mm.pick h [] (by simp))

theorem r07_above_ct (A C : Nat) (hA : A < 4294967296 ^ 5) (hC : C < 4294967296 ^ 5) (w : World) : Ct0 Tryd.prog 88 #[.agg (ns vq 5 (digF A)).toArray, .agg (ns vq 5 (digF C)).toArray] w (.bool (decide (C < A))) := by
  refine ct0_of Tryd.func88 rfl Tryd.ntmps88 rfl ?_
  refine hc_seq ?_
  refine hc_region ?_
  refine hl_i rfl rfl rfl (e_boxa rfl rfl) ?_; intro g2
  refine hl_i rfl rfl rfl (e_boxa rfl rfl) ?_; intro g3
  refine hl_y rfl rfl rfl (y_assign rfl rfl) ?_
  refine hl_nil ?_
  refine hq_then ?_
  refine hc_seq ?_
  refine hc_seq ?_
  refine hc_region ?_
  refine hl_y rfl rfl rfl (y_assign (v := vi 4) rfl rfl) ?_
  refine hl_nil ?_
  refine hq_then ?_
  refine hc_block ?_
  refine hc_loop (fun k => k ≤ 5 ∧ A / 4294967296 ^ (5 - k) = C / 4294967296 ^ (5 - k)) (fun k => 5 - k) (fun k => [(2, .pointer (some ⟨g2, 0, none⟩)), (3, .pointer (some ⟨g3, 0, none⟩)), (5, .int .i64 (4 - (k : Int)))]) (fun k => Mm w [.blk g3 77 (ns vq 5 (digF C)), .blk g2 77 (ns vq 5 (digF A))]) (0) ⟨by omega, (div_five hA).trans (div_five hC).symm⟩ ⟨rfl, rfl, lk_int rfl (by omega), trivial⟩ (fun _ h => h) ?_
  intro k hk
  obtain ⟨hk, hq⟩ := hk
  refine hc_seq ?_
  refine hc_seq ?_
  refine hc_region ?_
  refine hl_y rfl rfl rfl (y_move rfl rfl) ?_
  refine hl_y rfl rfl rfl (y_geqi (q := 0) rfl rfl rfl ) ?_
  refine hl_nil ?_
  refine hq_then ?_
  refine hc_if rfl (fun c0 => ?_) (fun c0 => ?_)
  · replace c0 := of_decide_eq_true c0
    have hq2 : A / 4294967296 ^ (4 - k + 1) = C / 4294967296 ^ (4 - k + 1) := by rw [show 4 - k + 1 = 5 - k from by omega]; exact hq
    refine HC.sl (s' := [(2, .pointer (some ⟨g2, 0, none⟩)), (3, .pointer (some ⟨g3, 0, none⟩)), (5, vi (4 - k))]) ⟨rfl, rfl, lk_int rfl (by omega), trivial⟩ ?_
    refine hc_skip ?_
    refine hq_then ?_
    refine hc_seq ?_
    refine hc_block ?_
    refine hc_seq ?_
    refine hc_drawP [0, 1] follows_mixed ?_
    refine hh_y 0 rfl rfl rfl rfl (by kernel_rfl) (by kernel_rfl) (by kernel_rfl) (fun _ h => Mm.pick h [0, 1] (by decide)) (y_move rfl rfl) ?_
    refine hh_y 1 rfl rfl rfl rfl (by kernel_rfl) (by kernel_rfl) (by kernel_rfl) (fun _ h => Mm.pick h [0, 1] (by decide)) (y_ixa1 rfl T77 O45 rfl rfl (by first | omega | (simp only [ls_len, ns_len, List.length_append, List.length_take, List.length_drop, List.length_replicate, List.length_cons, List.length_nil, putL_len, shaL_len]; omega) | (simp only [ls_len, ns_len, List.length_append, List.length_take, List.length_drop, List.length_replicate, List.length_cons, List.length_nil, putL_len, shaL_len] at *; omega))) ?_
    refine hh_y 2 rfl rfl rfl rfl (by kernel_rfl) (by kernel_rfl) (by kernel_rfl) (fun _ h => Mm.pick h [0, 1] (by decide)) (y_ldn 1 rfl O45 rfl rfl (by first | omega | (simp only [ls_len, ns_len, List.length_append, List.length_take, List.length_drop, List.length_replicate, List.length_cons, List.length_nil, putL_len, shaL_len]; omega) | (simp only [ls_len, ns_len, List.length_append, List.length_take, List.length_drop, List.length_replicate, List.length_cons, List.length_nil, putL_len, shaL_len] at *; omega))) ?_
    refine hh_y 3 rfl rfl rfl rfl (by kernel_rfl) (by kernel_rfl) (by kernel_rfl) (fun _ h => Mm.pick h [0, 1] (by decide)) (y_move rfl rfl) ?_
    refine hh_y 4 rfl rfl rfl rfl (by kernel_rfl) (by kernel_rfl) (by kernel_rfl) (fun _ h => Mm.pick h [0, 1] (by decide)) (y_ixa1 rfl T77 O45 rfl rfl (by first | omega | (simp only [ls_len, ns_len, List.length_append, List.length_take, List.length_drop, List.length_replicate, List.length_cons, List.length_nil, putL_len, shaL_len]; omega) | (simp only [ls_len, ns_len, List.length_append, List.length_take, List.length_drop, List.length_replicate, List.length_cons, List.length_nil, putL_len, shaL_len] at *; omega))) ?_
    refine hh_y 5 rfl rfl rfl rfl (by kernel_rfl) (by kernel_rfl) (by kernel_rfl) (fun _ h => Mm.pick h [0, 1] (by decide)) (y_ldn 0 rfl O45 rfl rfl (by first | omega | (simp only [ls_len, ns_len, List.length_append, List.length_take, List.length_drop, List.length_replicate, List.length_cons, List.length_nil, putL_len, shaL_len]; omega) | (simp only [ls_len, ns_len, List.length_append, List.length_take, List.length_drop, List.length_replicate, List.length_cons, List.length_nil, putL_len, shaL_len] at *; omega))) ?_
    refine hh_y 6 rfl rfl rfl rfl (by kernel_rfl) (by kernel_rfl) (by kernel_rfl) (fun _ h => Mm.pick h [0, 1] (by decide)) (y_neqq rfl rfl rfl) ?_
    refine hh_done (by kernel_rfl) ?_
    refine hq_then ?_
    refine hc_if rfl (fun c1 => ?_) (fun c1 => ?_)
    · replace c1 := of_decide_eq_true c1
      refine hc_seq ?_
      refine hc_drawP [0, 1] follows_mixed ?_
      refine hh_y 0 rfl rfl rfl rfl (by kernel_rfl) (by kernel_rfl) (by kernel_rfl) (fun _ h => Mm.pick h [0, 1] (by decide)) (y_move rfl rfl) ?_
      refine hh_y 1 rfl rfl rfl rfl (by kernel_rfl) (by kernel_rfl) (by kernel_rfl) (fun _ h => Mm.pick h [0, 1] (by decide)) (y_ixa1 rfl T77 O45 rfl rfl (by first | omega | (simp only [ls_len, ns_len, List.length_append, List.length_take, List.length_drop, List.length_replicate, List.length_cons, List.length_nil, putL_len, shaL_len]; omega) | (simp only [ls_len, ns_len, List.length_append, List.length_take, List.length_drop, List.length_replicate, List.length_cons, List.length_nil, putL_len, shaL_len] at *; omega))) ?_
      refine hh_y 2 rfl rfl rfl rfl (by kernel_rfl) (by kernel_rfl) (by kernel_rfl) (fun _ h => Mm.pick h [0, 1] (by decide)) (y_ldn 1 rfl O45 rfl rfl (by first | omega | (simp only [ls_len, ns_len, List.length_append, List.length_take, List.length_drop, List.length_replicate, List.length_cons, List.length_nil, putL_len, shaL_len]; omega) | (simp only [ls_len, ns_len, List.length_append, List.length_take, List.length_drop, List.length_replicate, List.length_cons, List.length_nil, putL_len, shaL_len] at *; omega))) ?_
      refine hh_y 3 rfl rfl rfl rfl (by kernel_rfl) (by kernel_rfl) (by kernel_rfl) (fun _ h => Mm.pick h [0, 1] (by decide)) (y_move rfl rfl) ?_
      refine hh_y 4 rfl rfl rfl rfl (by kernel_rfl) (by kernel_rfl) (by kernel_rfl) (fun _ h => Mm.pick h [0, 1] (by decide)) (y_ixa1 rfl T77 O45 rfl rfl (by first | omega | (simp only [ls_len, ns_len, List.length_append, List.length_take, List.length_drop, List.length_replicate, List.length_cons, List.length_nil, putL_len, shaL_len]; omega) | (simp only [ls_len, ns_len, List.length_append, List.length_take, List.length_drop, List.length_replicate, List.length_cons, List.length_nil, putL_len, shaL_len] at *; omega))) ?_
      refine hh_y 5 rfl rfl rfl rfl (by kernel_rfl) (by kernel_rfl) (by kernel_rfl) (fun _ h => Mm.pick h [0, 1] (by decide)) (y_ldn 0 rfl O45 rfl rfl (by first | omega | (simp only [ls_len, ns_len, List.length_append, List.length_take, List.length_drop, List.length_replicate, List.length_cons, List.length_nil, putL_len, shaL_len]; omega) | (simp only [ls_len, ns_len, List.length_append, List.length_take, List.length_drop, List.length_replicate, List.length_cons, List.length_nil, putL_len, shaL_len] at *; omega))) ?_
      refine hh_y 6 rfl rfl rfl rfl (by kernel_rfl) (by kernel_rfl) (by kernel_rfl) (fun _ h => Mm.pick h [0, 1] (by decide)) (y_gtrq rfl rfl rfl) ?_
      refine hh_y 7 rfl rfl rfl rfl (by kernel_rfl) (by kernel_rfl) (by kernel_rfl) (fun _ h => Mm.pick h [0, 1] (by decide)) (y_assign rfl rfl) ?_
      refine hh_done (by kernel_rfl) ?_
      refine hq_then ?_
      refine hc_ret ?_
      exact hq_in_ret (hq_then_ret (hq_loop_ret (hq_in_ret (hq_then_ret (hq_ret1 (()) rfl (rv_tmp rfl) (congrArg Value.bool (decide_eq_decide.2 (ab_here hq2 c1))) (fun _ h => Mm.pick h [] (by simp)))))))
    · replace c1 := of_decide_eq_false c1
      replace c1 := Decidable.not_not.1 c1
      refine hc_skip ?_
      refine hq_in (hq_then ?_)
      refine hc_region ?_
      refine hl_y rfl rfl rfl (y_move rfl rfl) ?_
      refine hl_y rfl rfl rfl (y_subi (q := 1) rfl rfl rfl (by first | omega | (simp only [ls_len, ns_len, List.length_append, List.length_take, List.length_drop, List.length_replicate, List.length_cons, List.length_nil, putL_len, shaL_len]; omega) | (simp only [ls_len, ns_len, List.length_append, List.length_take, List.length_drop, List.length_replicate, List.length_cons, List.length_nil, putL_len, shaL_len] at *; omega)) (by first | omega | (simp only [ls_len, ns_len, List.length_append, List.length_take, List.length_drop, List.length_replicate, List.length_cons, List.length_nil, putL_len, shaL_len]; omega) | (simp only [ls_len, ns_len, List.length_append, List.length_take, List.length_drop, List.length_replicate, List.length_cons, List.length_nil, putL_len, shaL_len] at *; omega))) ?_
      refine hl_y rfl rfl rfl (y_assign rfl rfl) ?_
      refine hl_nil ?_
      exact hq_round (k + 1) (by omega) ⟨by omega, (show 5 - (k + 1) = 4 - k by omega) ▸ ab_next hq2 c1⟩ ⟨rfl, rfl, lk_int rfl (by omega), trivial⟩ (fun _ h => h)
  · replace c0 := of_decide_eq_false c0
    have hq3 : A = C := by rw [show 5 - k = 0 from by omega] at hq; simpa using hq
    refine hc_exit ?_
    refine hq_then_exit (hq_loop_exit (hq_in_same (hq_then ?_)))
    refine hc_seq ?_
    refine hc_region ?_
    refine hl_y rfl rfl rfl (y_assign rfl rfl) ?_
    refine hl_nil ?_
    refine hq_then ?_
    refine hc_ret ?_
    exact hq_ret1 (()) rfl (rv_tmp rfl) (congrArg Value.bool (decide_eq_false (by omega)).symm) (fun _ h => Mm.pick h [] (by simp))

theorem r07_root2_ct (n : Nat) (hn : n < 400) (w : World) : Ct0 Tryd.prog 70 #[vq (uq n), vi 2] w (vw (rootN (n * 4294967296 ^ 2) 2)) := by
  refine ct0_of Tryd.func70 rfl Tryd.ntmps70 rfl ?_
  refine hc_seq ?_
  refine hc_region ?_
  refine hl_y rfl rfl rfl (y_assign (v := vw 0) rfl rfl) ?_
  refine hl_nil ?_
  refine hq_then ?_
  refine hc_seq ?_
  refine hc_region ?_
  refine hl_y rfl rfl rfl (y_move rfl rfl) ?_
  refine hl_y rfl rfl rfl (y_as (y_bun (fun i => if i = 3 then uq n else 0) vq_1 rfl T77 O45 0 Z77 rfl) (congrArg (fun l : List Value => Value.agg l.toArray) (ns_ext (g := digF (n * 4294967296 ^ 3)) fun i _ => (dig_p (by omega) 3 i).symm))) ?_
  refine hl_i rfl rfl rfl (e_alloc rfl Z77) ?_; intro g5
  refine hl_i0 rfl rfl (e_stw 0 rfl T77.2 rfl rfl rfl (ns_oneq _ _)) ?_; intro _
  refine hl_nil ?_
  refine hq_then ?_
  refine hc_seq ?_
  refine hc_seq ?_
  refine hc_region ?_
  refine hl_y rfl rfl rfl (y_move rfl rfl) ?_
  refine hl_y rfl rfl rfl (y_as (y_eqln (q := 2) rfl rfl rfl ) (congrArg Value.bool (decide_eq_true (by omega)))) ?_
  refine hl_nil ?_
  refine hq_then ?_
  refine hc_ifT rfl ?_
  refine hc_region ?_
  refine hl_y rfl rfl rfl (y_move rfl rfl) ?_
  refine hl_y rfl rfl rfl (y_as (y_bun (fun i => if i = 2 then uq n else 0) vq_1 rfl T77 O45 0 Z77 rfl) (congrArg (fun l : List Value => Value.agg l.toArray) (ns_ext (g := digF (n * 4294967296 ^ 2)) fun i _ => (dig_p (by omega) 2 i).symm))) ?_
  refine hl_i0 rfl rfl (e_stw 0 rfl T77.2 rfl rfl rfl (ns_oneq _ _)) ?_; intro _
  refine hl_nil ?_
  refine hq_then ?_
  refine hc_seq ?_
  refine hc_region ?_
  refine hl_y rfl rfl rfl (y_assign (v := vq 0) rfl rfl) ?_
  refine hl_nil ?_
  refine hq_then ?_
  refine hc_seq ?_
  refine hc_seq ?_
  refine hc_region ?_
  refine hl_y rfl rfl rfl (y_assign (v := vq 34359738368) rfl rfl) ?_
  refine hl_nil ?_
  refine hq_then ?_
  refine hc_block ?_
  refine hc_loop (fun k => k ≤ 36) (fun k => 36 - k) (fun k => [(1, vi 2), (5, .pointer (some ⟨g5, 0, none⟩)), (6, vq (uq (rtS (n * 4294967296 ^ 2) 2 k))), (7, vq (uq (bitN k)))]) (fun k => Mm w [.blk g5 77 (ns vq 5 (digF (n * 4294967296 ^ 2)))]) (0) (by omega) ⟨lk_int rfl (by omega), rfl, rfl, lk_eq rfl (congrArg vq (show (34359738368 : UInt64) = uq (bitN 0) by decide)), trivial⟩ (fun _ h => h) ?_
  intro k hk
  refine hc_seq ?_
  refine hc_seq ?_
  refine hc_region ?_
  refine hl_y rfl rfl rfl (y_move rfl rfl) ?_
  refine hl_y rfl rfl rfl (y_gtrq (q := 0) rfl rfl rfl) ?_
  refine hl_nil ?_
  refine hq_then ?_
  refine hc_if rfl (fun c1 => ?_) (fun c1 => ?_)
  · replace c1 := of_decide_eq_true c1
    have hk36 := bit_go hk c1
    refine hc_skip ?_
    refine hq_then ?_
    refine hc_seq ?_
    refine hc_block ?_
    refine hc_seq ?_
    refine hc_region ?_
    refine hl_y rfl rfl rfl (y_as (y_bun (fun i => if i = 0 then uq 1 else 0) vq_1 rfl T77 O45 0 Z77 rfl) (congrArg (fun l : List Value => Value.agg l.toArray) (ns_ext (g := digF ((rtS (n * 4294967296 ^ 2) 2 k + 2 ^ (35 - k)) ^ 0)) fun i _ => (dig_1 i).symm))) ?_
    refine hl_i rfl rfl rfl (e_alloc rfl Z77) ?_; intro g8
    refine hl_i0 rfl rfl (e_stw 0 rfl T77.2 rfl rfl rfl (ns_oneq _ _)) ?_; intro _
    refine hl_nil ?_
    refine hq_then ?_
    refine hc_seq ?_
    refine hc_seq ?_
    refine hc_region ?_
    refine hl_y rfl rfl rfl (y_assign (v := vi 0) rfl rfl) ?_
    refine hl_nil ?_
    refine hq_then ?_
    refine hc_block ?_
    refine hc_loop (fun i => i ≤ 2) (fun i => 2 - i) (fun i => [(1, vi 2), (5, .pointer (some ⟨g5, 0, none⟩)), (6, vq (uq (rtS (n * 4294967296 ^ 2) 2 k))), (7, vq (uq (bitN k))), (8, .pointer (some ⟨g8, 0, none⟩)), (9, vi i)]) (fun i => Mm w [.blk g8 77 (ns vq 5 (digF ((rtS (n * 4294967296 ^ 2) 2 k + 2 ^ (35 - k)) ^ i))), .blk g5 77 (ns vq 5 (digF (n * 4294967296 ^ 2)))]) (0) (by omega) ⟨lk_int rfl (by omega), rfl, rfl, rfl, rfl, lk_int rfl (by omega), trivial⟩ (fun _ h => h) ?_
    intro i hi
    refine hc_seq ?_
    refine hc_seq ?_
    refine hc_region ?_
    refine hl_y rfl rfl rfl (y_move rfl rfl) ?_
    refine hl_y rfl rfl rfl (y_move rfl rfl) ?_
    refine hl_y rfl rfl rfl (y_lssn rfl rfl rfl ) ?_
    refine hl_nil ?_
    refine hq_then ?_
    refine hc_if rfl (fun c2 => ?_) (fun c2 => ?_)
    · replace c2 := of_decide_eq_true c2
      refine hc_skip ?_
      refine hq_then ?_
      refine hc_seq ?_
      refine hc_block ?_
      refine hc_region ?_
      refine hl_y rfl rfl rfl (y_ldw 0 rfl T77 rfl rfl) ?_
      refine hl_y rfl rfl rfl (y_move rfl rfl) ?_
      refine hl_y rfl rfl rfl (y_move rfl rfl) ?_
      refine hl_y rfl rfl rfl (y_as (y_addq rfl rfl rfl) (congrArg vq (rt_bit hk36))) ?_
      refine hl_i rfl rfl rfl (e_call0 rfl F87 rfl (fun w hw => r07_times_ct _ _ (rt_add hk36) w) rfl) ?_; intro _
      refine hl_i0 rfl rfl (e_stw 0 rfl T77.2 rfl rfl rfl (ns_oneq _ _)) ?_; intro _
      refine hl_nil ?_
      refine hq_in (hq_then ?_)
      refine hc_region ?_
      refine hl_y rfl rfl rfl (y_move rfl rfl) ?_
      refine hl_y rfl rfl rfl (y_addn (q := 1) rfl rfl rfl (by first | omega | (simp only [ls_len, ns_len, List.length_append, List.length_take, List.length_drop, List.length_replicate, List.length_cons, List.length_nil, putL_len, shaL_len]; omega) | (simp only [ls_len, ns_len, List.length_append, List.length_take, List.length_drop, List.length_replicate, List.length_cons, List.length_nil, putL_len, shaL_len] at *; omega))) ?_
      refine hl_y rfl rfl rfl (y_assign rfl rfl) ?_
      refine hl_nil ?_
      exact hq_round (i + 1) (by omega) (by omega) ⟨lk_int rfl (by omega), rfl, rfl, rfl, rfl, lk_int rfl (by omega), trivial⟩ (fun _ h => h)
    · replace c2 := of_decide_eq_false c2
      refine hc_exit ?_
      refine hq_then_exit (hq_loop_exit (hq_in_same (hq_then ?_)))
      refine hc_seq ?_
      refine hc_region ?_
      refine hl_y rfl rfl rfl (y_ldw 0 rfl T77 rfl rfl) ?_
      refine hl_y rfl rfl rfl (y_ldw 1 rfl T77 rfl rfl) ?_
      refine hl_i rfl rfl rfl (e_call0 rfl F88 rfl (fun w hw => r07_above_ct _ _ (pow_big (rt_add hk36) (by omega)) (lim_lt hn (by decide)) w) rfl) ?_; intro _
      refine hl_y rfl rfl rfl (y_not rfl rfl) ?_
      refine hl_nil ?_
      refine hq_then ?_
      refine hc_if rfl (fun c3 => ?_) (fun c3 => ?_)
      · skip
        replace c3 : ¬ (n * 4294967296 ^ 2) < (rtS (n * 4294967296 ^ 2) 2 k + 2 ^ (35 - k)) ^ i := by simpa using c3
        obtain rfl : i = 2 := by omega
        refine hc_region ?_
        refine hl_y rfl rfl rfl (y_move rfl rfl) ?_
        refine hl_y rfl rfl rfl (y_move rfl rfl) ?_
        refine hl_y rfl rfl rfl (y_as (y_addq rfl rfl rfl) (congrArg vq (rt_bit hk36))) ?_
        refine hl_y rfl rfl rfl (y_assign rfl rfl) ?_
        refine hl_nil ?_
        refine hq_in (hq_then ?_)
        refine hc_region ?_
        refine hl_y rfl rfl rfl (y_move rfl rfl) ?_
        refine hl_y rfl rfl rfl (y_quoq (q := 2) rfl rfl rfl (by decide)) ?_
        refine hl_y rfl rfl rfl (y_assign rfl rfl) ?_
        refine hl_nil ?_
        exact hq_round (k + 1) (by omega) (by omega) ⟨lk_int rfl (by omega), rfl, lk_eq rfl (by first | exact congrArg (fun z => vq (uq z)) (if_pos (Nat.le_of_not_lt c3)).symm | exact congrArg (fun z => vq (uq z)) (if_neg (Nat.not_le_of_lt c3)).symm), lk_eq rfl (congrArg vq (bit_next k)), trivial⟩ (fun _ h => Mm.pick h [1] (by decide))
      · skip
        replace c3 : (n * 4294967296 ^ 2) < (rtS (n * 4294967296 ^ 2) 2 k + 2 ^ (35 - k)) ^ i := by simpa using c3
        obtain rfl : i = 2 := by omega
        refine hc_skip ?_
        refine hq_in (hq_then ?_)
        refine hc_region ?_
        refine hl_y rfl rfl rfl (y_move rfl rfl) ?_
        refine hl_y rfl rfl rfl (y_quoq (q := 2) rfl rfl rfl (by decide)) ?_
        refine hl_y rfl rfl rfl (y_assign rfl rfl) ?_
        refine hl_nil ?_
        exact hq_round (k + 1) (by omega) (by omega) ⟨lk_int rfl (by omega), rfl, lk_eq rfl (by first | exact congrArg (fun z => vq (uq z)) (if_pos (Nat.le_of_not_lt c3)).symm | exact congrArg (fun z => vq (uq z)) (if_neg (Nat.not_le_of_lt c3)).symm), lk_eq rfl (congrArg vq (bit_next k)), trivial⟩ (fun _ h => Mm.pick h [1] (by decide))
  · replace c1 := of_decide_eq_false c1
    have hk36 := bit_end hk c1
    subst hk36
    refine hc_exit ?_
    refine hq_then_exit (hq_loop_exit (hq_in_same (hq_then ?_)))
    refine hc_seq ?_
    refine hc_region ?_
    refine hl_y rfl rfl rfl (y_move rfl rfl) ?_
    refine hl_y rfl rfl rfl (y_as (y_remq (q := 4294967296) rfl rfl rfl (by decide)) (congrArg vq (uq_mod (n := 4294967296) (by have := rt_lt (lim := (n * 4294967296 ^ 2)) (p := 2) (k := 36) (by omega); omega) (by decide)))) ?_
    refine hl_y rfl rfl rfl (y_conv rfl U45 U28 rfl (conv_qw _)) ?_
    refine hl_y rfl rfl rfl (y_assign rfl rfl) ?_
    refine hl_nil ?_
    refine hq_then ?_
    refine hc_ret ?_
    exact hq_ret1 (()) rfl (rv_tmp rfl) rfl (fun _ h => Mm.pick h [] (by simp))

theorem r07_root3_ct (n : Nat) (hn : n < 400) (w : World) : Ct0 Tryd.prog 70 #[vq (uq n), vi 3] w (vw (rootN (n * 4294967296 ^ 3) 3)) := by
  refine ct0_of Tryd.func70 rfl Tryd.ntmps70 rfl ?_
  refine hc_seq ?_
  refine hc_region ?_
  refine hl_y rfl rfl rfl (y_assign (v := vw 0) rfl rfl) ?_
  refine hl_nil ?_
  refine hq_then ?_
  refine hc_seq ?_
  refine hc_region ?_
  refine hl_y rfl rfl rfl (y_move rfl rfl) ?_
  refine hl_y rfl rfl rfl (y_as (y_bun (fun i => if i = 3 then uq n else 0) vq_1 rfl T77 O45 0 Z77 rfl) (congrArg (fun l : List Value => Value.agg l.toArray) (ns_ext (g := digF (n * 4294967296 ^ 3)) fun i _ => (dig_p (by omega) 3 i).symm))) ?_
  refine hl_i rfl rfl rfl (e_alloc rfl Z77) ?_; intro g5
  refine hl_i0 rfl rfl (e_stw 0 rfl T77.2 rfl rfl rfl (ns_oneq _ _)) ?_; intro _
  refine hl_nil ?_
  refine hq_then ?_
  refine hc_seq ?_
  refine hc_seq ?_
  refine hc_region ?_
  refine hl_y rfl rfl rfl (y_move rfl rfl) ?_
  refine hl_y rfl rfl rfl (y_as (y_eqln (q := 2) rfl rfl rfl ) (congrArg Value.bool (decide_eq_false (by omega)))) ?_
  refine hl_nil ?_
  refine hq_then ?_
  refine hc_ifF rfl ?_
  refine hc_skip ?_
  refine hq_then ?_
  refine hc_seq ?_
  refine hc_region ?_
  refine hl_y rfl rfl rfl (y_assign (v := vq 0) rfl rfl) ?_
  refine hl_nil ?_
  refine hq_then ?_
  refine hc_seq ?_
  refine hc_seq ?_
  refine hc_region ?_
  refine hl_y rfl rfl rfl (y_assign (v := vq 34359738368) rfl rfl) ?_
  refine hl_nil ?_
  refine hq_then ?_
  refine hc_block ?_
  refine hc_loop (fun k => k ≤ 36) (fun k => 36 - k) (fun k => [(1, vi 3), (5, .pointer (some ⟨g5, 0, none⟩)), (6, vq (uq (rtS (n * 4294967296 ^ 3) 3 k))), (7, vq (uq (bitN k)))]) (fun k => Mm w [.blk g5 77 (ns vq 5 (digF (n * 4294967296 ^ 3)))]) (0) (by omega) ⟨lk_int rfl (by omega), rfl, rfl, lk_eq rfl (congrArg vq (show (34359738368 : UInt64) = uq (bitN 0) by decide)), trivial⟩ (fun _ h => h) ?_
  intro k hk
  refine hc_seq ?_
  refine hc_seq ?_
  refine hc_region ?_
  refine hl_y rfl rfl rfl (y_move rfl rfl) ?_
  refine hl_y rfl rfl rfl (y_gtrq (q := 0) rfl rfl rfl) ?_
  refine hl_nil ?_
  refine hq_then ?_
  refine hc_if rfl (fun c1 => ?_) (fun c1 => ?_)
  · replace c1 := of_decide_eq_true c1
    have hk36 := bit_go hk c1
    refine hc_skip ?_
    refine hq_then ?_
    refine hc_seq ?_
    refine hc_block ?_
    refine hc_seq ?_
    refine hc_region ?_
    refine hl_y rfl rfl rfl (y_as (y_bun (fun i => if i = 0 then uq 1 else 0) vq_1 rfl T77 O45 0 Z77 rfl) (congrArg (fun l : List Value => Value.agg l.toArray) (ns_ext (g := digF ((rtS (n * 4294967296 ^ 3) 3 k + 2 ^ (35 - k)) ^ 0)) fun i _ => (dig_1 i).symm))) ?_
    refine hl_i rfl rfl rfl (e_alloc rfl Z77) ?_; intro g8
    refine hl_i0 rfl rfl (e_stw 0 rfl T77.2 rfl rfl rfl (ns_oneq _ _)) ?_; intro _
    refine hl_nil ?_
    refine hq_then ?_
    refine hc_seq ?_
    refine hc_seq ?_
    refine hc_region ?_
    refine hl_y rfl rfl rfl (y_assign (v := vi 0) rfl rfl) ?_
    refine hl_nil ?_
    refine hq_then ?_
    refine hc_block ?_
    refine hc_loop (fun i => i ≤ 3) (fun i => 3 - i) (fun i => [(1, vi 3), (5, .pointer (some ⟨g5, 0, none⟩)), (6, vq (uq (rtS (n * 4294967296 ^ 3) 3 k))), (7, vq (uq (bitN k))), (8, .pointer (some ⟨g8, 0, none⟩)), (9, vi i)]) (fun i => Mm w [.blk g8 77 (ns vq 5 (digF ((rtS (n * 4294967296 ^ 3) 3 k + 2 ^ (35 - k)) ^ i))), .blk g5 77 (ns vq 5 (digF (n * 4294967296 ^ 3)))]) (0) (by omega) ⟨lk_int rfl (by omega), rfl, rfl, rfl, rfl, lk_int rfl (by omega), trivial⟩ (fun _ h => h) ?_
    intro i hi
    refine hc_seq ?_
    refine hc_seq ?_
    refine hc_region ?_
    refine hl_y rfl rfl rfl (y_move rfl rfl) ?_
    refine hl_y rfl rfl rfl (y_move rfl rfl) ?_
    refine hl_y rfl rfl rfl (y_lssn rfl rfl rfl ) ?_
    refine hl_nil ?_
    refine hq_then ?_
    refine hc_if rfl (fun c2 => ?_) (fun c2 => ?_)
    · replace c2 := of_decide_eq_true c2
      refine hc_skip ?_
      refine hq_then ?_
      refine hc_seq ?_
      refine hc_block ?_
      refine hc_region ?_
      refine hl_y rfl rfl rfl (y_ldw 0 rfl T77 rfl rfl) ?_
      refine hl_y rfl rfl rfl (y_move rfl rfl) ?_
      refine hl_y rfl rfl rfl (y_move rfl rfl) ?_
      refine hl_y rfl rfl rfl (y_as (y_addq rfl rfl rfl) (congrArg vq (rt_bit hk36))) ?_
      refine hl_i rfl rfl rfl (e_call0 rfl F87 rfl (fun w hw => r07_times_ct _ _ (rt_add hk36) w) rfl) ?_; intro _
      refine hl_i0 rfl rfl (e_stw 0 rfl T77.2 rfl rfl rfl (ns_oneq _ _)) ?_; intro _
      refine hl_nil ?_
      refine hq_in (hq_then ?_)
      refine hc_region ?_
      refine hl_y rfl rfl rfl (y_move rfl rfl) ?_
      refine hl_y rfl rfl rfl (y_addn (q := 1) rfl rfl rfl (by first | omega | (simp only [ls_len, ns_len, List.length_append, List.length_take, List.length_drop, List.length_replicate, List.length_cons, List.length_nil, putL_len, shaL_len]; omega) | (simp only [ls_len, ns_len, List.length_append, List.length_take, List.length_drop, List.length_replicate, List.length_cons, List.length_nil, putL_len, shaL_len] at *; omega))) ?_
      refine hl_y rfl rfl rfl (y_assign rfl rfl) ?_
      refine hl_nil ?_
      exact hq_round (i + 1) (by omega) (by omega) ⟨lk_int rfl (by omega), rfl, rfl, rfl, rfl, lk_int rfl (by omega), trivial⟩ (fun _ h => h)
    · replace c2 := of_decide_eq_false c2
      refine hc_exit ?_
      refine hq_then_exit (hq_loop_exit (hq_in_same (hq_then ?_)))
      refine hc_seq ?_
      refine hc_region ?_
      refine hl_y rfl rfl rfl (y_ldw 0 rfl T77 rfl rfl) ?_
      refine hl_y rfl rfl rfl (y_ldw 1 rfl T77 rfl rfl) ?_
      refine hl_i rfl rfl rfl (e_call0 rfl F88 rfl (fun w hw => r07_above_ct _ _ (pow_big (rt_add hk36) (by omega)) (lim_lt hn (by decide)) w) rfl) ?_; intro _
      refine hl_y rfl rfl rfl (y_not rfl rfl) ?_
      refine hl_nil ?_
      refine hq_then ?_
      refine hc_if rfl (fun c3 => ?_) (fun c3 => ?_)
      · skip
        replace c3 : ¬ (n * 4294967296 ^ 3) < (rtS (n * 4294967296 ^ 3) 3 k + 2 ^ (35 - k)) ^ i := by simpa using c3
        obtain rfl : i = 3 := by omega
        refine hc_region ?_
        refine hl_y rfl rfl rfl (y_move rfl rfl) ?_
        refine hl_y rfl rfl rfl (y_move rfl rfl) ?_
        refine hl_y rfl rfl rfl (y_as (y_addq rfl rfl rfl) (congrArg vq (rt_bit hk36))) ?_
        refine hl_y rfl rfl rfl (y_assign rfl rfl) ?_
        refine hl_nil ?_
        refine hq_in (hq_then ?_)
        refine hc_region ?_
        refine hl_y rfl rfl rfl (y_move rfl rfl) ?_
        refine hl_y rfl rfl rfl (y_quoq (q := 2) rfl rfl rfl (by decide)) ?_
        refine hl_y rfl rfl rfl (y_assign rfl rfl) ?_
        refine hl_nil ?_
        exact hq_round (k + 1) (by omega) (by omega) ⟨lk_int rfl (by omega), rfl, lk_eq rfl (by first | exact congrArg (fun z => vq (uq z)) (if_pos (Nat.le_of_not_lt c3)).symm | exact congrArg (fun z => vq (uq z)) (if_neg (Nat.not_le_of_lt c3)).symm), lk_eq rfl (congrArg vq (bit_next k)), trivial⟩ (fun _ h => Mm.pick h [1] (by decide))
      · skip
        replace c3 : (n * 4294967296 ^ 3) < (rtS (n * 4294967296 ^ 3) 3 k + 2 ^ (35 - k)) ^ i := by simpa using c3
        obtain rfl : i = 3 := by omega
        refine hc_skip ?_
        refine hq_in (hq_then ?_)
        refine hc_region ?_
        refine hl_y rfl rfl rfl (y_move rfl rfl) ?_
        refine hl_y rfl rfl rfl (y_quoq (q := 2) rfl rfl rfl (by decide)) ?_
        refine hl_y rfl rfl rfl (y_assign rfl rfl) ?_
        refine hl_nil ?_
        exact hq_round (k + 1) (by omega) (by omega) ⟨lk_int rfl (by omega), rfl, lk_eq rfl (by first | exact congrArg (fun z => vq (uq z)) (if_pos (Nat.le_of_not_lt c3)).symm | exact congrArg (fun z => vq (uq z)) (if_neg (Nat.not_le_of_lt c3)).symm), lk_eq rfl (congrArg vq (bit_next k)), trivial⟩ (fun _ h => Mm.pick h [1] (by decide))
  · replace c1 := of_decide_eq_false c1
    have hk36 := bit_end hk c1
    subst hk36
    refine hc_exit ?_
    refine hq_then_exit (hq_loop_exit (hq_in_same (hq_then ?_)))
    refine hc_seq ?_
    refine hc_region ?_
    refine hl_y rfl rfl rfl (y_move rfl rfl) ?_
    refine hl_y rfl rfl rfl (y_as (y_remq (q := 4294967296) rfl rfl rfl (by decide)) (congrArg vq (uq_mod (n := 4294967296) (by have := rt_lt (lim := (n * 4294967296 ^ 3)) (p := 3) (k := 36) (by omega); omega) (by decide)))) ?_
    refine hl_y rfl rfl rfl (y_conv rfl U45 U28 rfl (conv_qw _)) ?_
    refine hl_y rfl rfl rfl (y_assign rfl rfl) ?_
    refine hl_nil ?_
    refine hq_then ?_
    refine hc_ret ?_
    exact hq_ret1 (()) rfl (rv_tmp rfl) rfl (fun _ h => Mm.pick h [] (by simp))

theorem r07_prime_ct (t : Nat) (ht : t < 78) (w : World) : Ct0 Tryd.prog 71 #[vi t] w (vq (uq (primeN t))) := by
  refine ct0_of Tryd.func71 rfl Tryd.ntmps71 rfl ?_
  refine hc_seq ?_
  refine hc_region ?_
  refine hl_y rfl rfl rfl (y_assign (v := vq 0) rfl rfl) ?_
  refine hl_nil ?_
  refine hq_then ?_
  refine hc_seq ?_
  refine hc_region ?_
  refine hl_y rfl rfl rfl (y_assign (v := vq 2) rfl rfl) ?_
  refine hl_nil ?_
  refine hq_then ?_
  refine hc_seq ?_
  refine hc_block ?_
  refine hc_loop (fun k => 2 ≤ k ∧ k ≤ 400 ∧ cntP k ≤ t) (fun k => 400 - k) (fun k => [(0, vi (t - cntP k)), (3, vq (uq k))]) (fun k => Mm w []) (2) ⟨by omega, by omega, Nat.le_trans (show cntP 2 ≤ 0 from by decide +kernel) (Nat.zero_le _)⟩ ⟨lk_int rfl (by rw [show cntP 2 = 0 from by decide +kernel]; omega), rfl, trivial⟩ (fun _ h => h) ?_
  intro k hk
  obtain ⟨hk, hk2, hct⟩ := hk
  refine hc_seq ?_
  refine hc_seq ?_
  refine hc_region ?_
  refine hl_y rfl rfl rfl (y_move rfl rfl) ?_
  refine hl_y rfl rfl rfl (y_lssq (q := 400) rfl rfl rfl) ?_
  refine hl_nil ?_
  refine hq_then ?_
  refine hc_if rfl (fun c0 => ?_) (fun c0 => ?_)
  · replace c0 := of_decide_eq_true c0
    replace c0 : k < 400 := by rw [uq_toNat (by omega)] at c0; exact c0
    refine hc_skip ?_
    refine hq_then ?_
    refine hc_block ?_
    refine hc_seq ?_
    refine hc_region ?_
    refine hl_y rfl rfl rfl (y_assign rfl rfl) ?_
    refine hl_nil ?_
    refine hq_then ?_
    refine hc_seq ?_
    refine hc_seq ?_
    refine hc_region ?_
    refine hl_y rfl rfl rfl (y_assign (v := vq 2) rfl rfl) ?_
    refine hl_nil ?_
    refine hq_then ?_
    refine hc_block ?_
    refine hc_loop (fun d => 2 ≤ d ∧ d ≤ k) (fun d => k - d) (fun d => [(0, vi (t - cntP k)), (3, vq (uq k)), (4, .bool (isPd k d)), (5, vq (uq d))]) (fun d => Mm w []) (2) ⟨by omega, by omega⟩ ⟨lk_int rfl (by omega), rfl, rfl, rfl, trivial⟩ (fun _ h => h) ?_
    intro d hd
    obtain ⟨hd, hd2⟩ := hd
    refine hc_seq ?_
    refine hc_seq ?_
    refine hc_region ?_
    refine hl_y rfl rfl rfl (y_move rfl rfl) ?_
    refine hl_y rfl rfl rfl (y_move rfl rfl) ?_
    refine hl_y rfl rfl rfl (y_lssq rfl rfl rfl) ?_
    refine hl_nil ?_
    refine hq_then ?_
    refine hc_if rfl (fun c1 => ?_) (fun c1 => ?_)
    · replace c1 := of_decide_eq_true c1
      rw [uq_toNat (by omega), uq_toNat (by omega)] at c1
      refine hc_skip ?_
      refine hq_then ?_
      refine hc_seq ?_
      refine hc_block ?_
      refine hc_seq ?_
      refine hc_region ?_
      refine hl_y rfl rfl rfl (y_move rfl rfl) ?_
      refine hl_y rfl rfl rfl (y_move rfl rfl) ?_
      refine hl_y rfl rfl rfl (y_as (y_remq rfl rfl rfl (uq_ne (by omega) (by omega))) (congrArg vq (uq_mod (by omega) (by omega)))) ?_
      refine hl_y rfl rfl rfl (y_eqlq (q := 0) rfl rfl rfl) ?_
      refine hl_nil ?_
      refine hq_then ?_
      refine hc_if rfl (fun c2 => ?_) (fun c2 => ?_)
      · replace c2 := of_decide_eq_true c2
        replace c2 := (uq_zero (by have := Nat.mod_lt k (show 0 < d by omega); omega)).1 c2
        refine hc_region ?_
        refine hl_y rfl rfl rfl (y_assign rfl rfl) ?_
        refine hl_nil ?_
        refine hq_in (hq_then ?_)
        refine hc_region ?_
        refine hl_y rfl rfl rfl (y_move rfl rfl) ?_
        refine hl_y rfl rfl rfl (y_addq (q := 1) rfl rfl rfl) ?_
        refine hl_y rfl rfl rfl (y_assign rfl rfl) ?_
        refine hl_nil ?_
        exact hq_round (d + 1) (by omega) ⟨by omega, by omega⟩ ⟨lk_int rfl (by omega), rfl, lk_eq rfl (by first | exact congrArg Value.bool (isPd_no (by omega) c2).symm | exact congrArg Value.bool (isPd_yes c2).symm), lk_eq rfl (congrArg vq (uq_add d 1)), trivial⟩ (fun _ h => h)
      · replace c2 := of_decide_eq_false c2
        replace c2 : ¬ k % d = 0 := fun h => c2 ((uq_zero (by omega)).2 h)
        refine hc_skip ?_
        refine hq_in (hq_then ?_)
        refine hc_region ?_
        refine hl_y rfl rfl rfl (y_move rfl rfl) ?_
        refine hl_y rfl rfl rfl (y_addq (q := 1) rfl rfl rfl) ?_
        refine hl_y rfl rfl rfl (y_assign rfl rfl) ?_
        refine hl_nil ?_
        exact hq_round (d + 1) (by omega) ⟨by omega, by omega⟩ ⟨lk_int rfl (by omega), rfl, lk_eq rfl (by first | exact congrArg Value.bool (isPd_no (by omega) c2).symm | exact congrArg Value.bool (isPd_yes c2).symm), lk_eq rfl (congrArg vq (uq_add d 1)), trivial⟩ (fun _ h => h)
    · replace c1 := of_decide_eq_false c1
      rw [uq_toNat (by omega), uq_toNat (by omega)] at c1
      obtain rfl : k = d := by omega
      refine hc_exit ?_
      refine hq_then_exit (hq_loop_exit (hq_in_same (hq_then ?_)))
      refine hc_seq ?_
      refine hc_seq ?_
      rcases Decidable.em (isPd k k = true) with c3 | c3
      · skip
        rcases Decidable.em (t - cntP k = 0) with c4 | c4
        · skip
          refine hc_region ?_
          refine hl_y rfl rfl rfl (y_as (y_move rfl rfl) (congrArg Value.bool c3)) ?_
          refine hl_y rfl rfl rfl (y_move rfl rfl) ?_
          refine hl_yg 1 18 true rfl rfl rfl rfl rfl (y_move rfl rfl) ?_
          refine hl_yg 1 18 true rfl rfl rfl rfl rfl (y_as (y_eqln (q := 0) rfl rfl rfl ) (congrArg Value.bool (decide_eq_true (by omega)))) ?_
          refine hl_y rfl rfl rfl (y_pick (b := true) rfl rfl rfl) ?_
          refine hl_nil ?_
          refine hq_then ?_
          refine hc_ifT rfl ?_
          refine hc_seq ?_
          refine hc_region ?_
          refine hl_y rfl rfl rfl (y_move rfl rfl) ?_
          refine hl_y rfl rfl rfl (y_assign rfl rfl) ?_
          refine hl_nil ?_
          refine hq_then ?_
          refine hc_ret ?_
          exact hq_then_ret (hq_in_ret (hq_loop_ret (hq_in_ret (hq_then_ret (hq_ret1 (()) rfl (rv_tmp rfl) (by rw [show t = cntP k from by omega, prime_at c0 (by rw [isP_of (by omega)]; exact c3)]) (fun _ h => Mm.pick h [] (by simp)))))))
        · skip
          refine hc_region ?_
          refine hl_y rfl rfl rfl (y_as (y_move rfl rfl) (congrArg Value.bool c3)) ?_
          refine hl_y rfl rfl rfl (y_move rfl rfl) ?_
          refine hl_yg 1 18 true rfl rfl rfl rfl rfl (y_move rfl rfl) ?_
          refine hl_yg 1 18 true rfl rfl rfl rfl rfl (y_as (y_eqln (q := 0) rfl rfl rfl ) (congrArg Value.bool (decide_eq_false (by omega)))) ?_
          refine hl_y rfl rfl rfl (y_pick (b := true) rfl rfl rfl) ?_
          refine hl_nil ?_
          refine hq_then ?_
          refine hc_ifF rfl ?_
          refine hc_skip ?_
          refine hq_then ?_
          refine hc_seq ?_
          refine hc_seq ?_
          refine hc_region ?_
          refine hl_y rfl rfl rfl (y_as (y_move rfl rfl) (congrArg Value.bool c3)) ?_
          refine hl_nil ?_
          refine hq_then ?_
          refine hc_ifT rfl ?_
          refine hc_region ?_
          refine hl_y rfl rfl rfl (y_move rfl rfl) ?_
          refine hl_y rfl rfl rfl (y_subn (q := 1) rfl rfl rfl (by first | omega | (simp only [ls_len, ns_len, List.length_append, List.length_take, List.length_drop, List.length_replicate, List.length_cons, List.length_nil, putL_len, shaL_len]; omega) | (simp only [ls_len, ns_len, List.length_append, List.length_take, List.length_drop, List.length_replicate, List.length_cons, List.length_nil, putL_len, shaL_len] at *; omega)) (by first | omega | (simp only [ls_len, ns_len, List.length_append, List.length_take, List.length_drop, List.length_replicate, List.length_cons, List.length_nil, putL_len, shaL_len]; omega) | (simp only [ls_len, ns_len, List.length_append, List.length_take, List.length_drop, List.length_replicate, List.length_cons, List.length_nil, putL_len, shaL_len] at *; omega))) ?_
          refine hl_y rfl rfl rfl (y_assign rfl rfl) ?_
          refine hl_nil ?_
          refine hq_then ?_
          refine hc_region ?_
          refine hl_y rfl rfl rfl (y_move rfl rfl) ?_
          refine hl_y rfl rfl rfl (y_addq (q := 1) rfl rfl rfl) ?_
          refine hl_y rfl rfl rfl (y_assign rfl rfl) ?_
          refine hl_nil ?_
          refine hq_in (?_)
          exact hq_round (k + 1) (by omega) ⟨by omega, by omega, by have hcn := cnt_next k; rw [isP_of (by omega)] at hcn; simp only [c3, if_true, if_false, Bool.false_eq_true] at hcn; omega⟩ ⟨lk_int rfl (by have hcn := cnt_next k; rw [isP_of (by omega)] at hcn; simp only [c3, if_true, if_false, Bool.false_eq_true] at hcn; omega), lk_eq rfl (congrArg vq (uq_add k 1)), trivial⟩ (fun _ h => h)
      · skip
        refine hc_region ?_
        refine hl_y rfl rfl rfl (y_as (y_move rfl rfl) (congrArg Value.bool (Bool.eq_false_iff.2 c3))) ?_
        refine hl_y rfl rfl rfl (y_move rfl rfl) ?_
        refine hl_no 1 18 true false rfl rfl rfl rfl rfl rfl ?_
        refine hl_no 1 18 true false rfl rfl rfl rfl rfl rfl ?_
        refine hl_y rfl rfl rfl (y_pick (b := false) rfl rfl rfl) ?_
        refine hl_nil ?_
        refine hq_then ?_
        refine hc_ifF rfl ?_
        refine hc_skip ?_
        refine hq_then ?_
        refine hc_seq ?_
        refine hc_seq ?_
        refine hc_region ?_
        refine hl_y rfl rfl rfl (y_as (y_move rfl rfl) (congrArg Value.bool (Bool.eq_false_iff.2 c3))) ?_
        refine hl_nil ?_
        refine hq_then ?_
        refine hc_ifF rfl ?_
        refine hc_skip ?_
        refine hq_then ?_
        refine hc_region ?_
        refine hl_y rfl rfl rfl (y_move rfl rfl) ?_
        refine hl_y rfl rfl rfl (y_addq (q := 1) rfl rfl rfl) ?_
        refine hl_y rfl rfl rfl (y_assign rfl rfl) ?_
        refine hl_nil ?_
        refine hq_in (?_)
        exact hq_round (k + 1) (by omega) ⟨by omega, by omega, by have hcn := cnt_next k; rw [isP_of (by omega)] at hcn; simp only [c3, if_true, if_false, Bool.false_eq_true] at hcn; omega⟩ ⟨lk_int rfl (by have hcn := cnt_next k; rw [isP_of (by omega)] at hcn; simp only [c3, if_true, if_false, Bool.false_eq_true] at hcn; omega), lk_eq rfl (congrArg vq (uq_add k 1)), trivial⟩ (fun _ h => h)
  · replace c0 := of_decide_eq_false c0
    exfalso; apply c0; rw [uq_toNat (by omega)]; show k < 400; rcases Nat.lt_or_ge k 400 with h | h; exact h; rw [show k = 400 from by omega, cnt_400] at hct; omega

end Go.Proofs.YtcdidapkpfnphaaDoor
