/- The schedule of keys and the rounds of the cipher: what each call gives back. -/
import Derived.Test.YtcdidapkpfnphaaDoorAesA
namespace Go.Proofs.YtcdidapkpfnphaaDoor
open Go.RowKit
set_option linter.unusedVariables false
set_option linter.unusedSimpArgs false
set_option maxRecDepth 100000
theorem agg_ext {f g : Nat → UInt8} {n : Nat} (h : ∀ i, i < n → f i = g i) : Value.agg (ns vb n f).toArray = .agg (ns vb n g).toArray := by rw [ns_ext h]
theorem turn_T {x : Nat → UInt8} {i k j : Nat} (h : i % 8 = 0) (hj : j < 4) (hk : 4 ≤ k) : upd (fun j => if j < k then boxT (rotF x j) else rotF x j) 0 ((if 0 < k then boxT (rotF x 0) else rotF x 0) ^^^ powG 2 (redN (i / 8 - 1))) j = turnF x i j := by
  simp only [upd, turnF, turnW, if_pos h]
  by_cases hj0 : j = 0
  · subst hj0
    rw [if_pos rfl, if_pos rfl, if_pos (by omega)]
  · rw [if_neg hj0, if_neg hj0, if_pos (by omega)]
theorem turn_N {x : Nat → UInt8} {i j : Nat} (h : ¬ i % 8 = 0) (h4 : ¬ i % 4 = 0) : x j = turnF x i j := by
  simp only [turnF, turnW, if_neg h, if_neg h4]
theorem turn_F {x : Nat → UInt8} {i k j : Nat} (h : ¬ i % 8 = 0) (h4 : i % 4 = 0) (hj : j < k) : (if j < k then boxT (x j) else x j) = turnF x i j := by
  simp only [turnF, turnW, if_neg h, if_pos h4, if_pos hj]
theorem ns_step2 {α : Type} {v : α → Value} {n a k : Nat} {f g : Nat → α} {x : α} (h : x = f (a + k)) : ns v n (upd (fun i => if a ≤ i ∧ i < a + k then f i else g i) (a + k) x) = ns v n (fun i => if a ≤ i ∧ i < a + (k + 1) then f i else g i) := by
  subst h
  apply ns_ext
  intro i _
  simp only [upd]
  by_cases h1 : i = a + k
  · subst h1; rw [if_pos rfl, if_pos (by omega)]
  · by_cases h2 : a ≤ i ∧ i < a + k
    · rw [if_neg h1, if_pos h2, if_pos (by omega)]
    · rw [if_neg h1, if_neg h2, if_neg (by omega)]
theorem wg_key {tn : (Nat → UInt8) → Nat → Nat → UInt8} {l : List UInt8} {i : Nat} (hi : i < 8) : ns vb 240 (fun q => if i * 4 ≤ q ∧ q < i * 4 + 4 then l.getD (4 * i + (q - i * 4)) 0 else wGen tn (keyF l) i q) = ns vb 240 (wGen tn (keyF l) (i + 1)) := by
  apply ns_ext
  intro q _
  simp only [wGen]
  by_cases h : i * 4 ≤ q ∧ q < i * 4 + 4
  · rw [if_pos h, if_pos h, if_pos hi, keyF, show 4 * i + (q - i * 4) = q from by omega]
  · rw [if_neg h, if_neg h]
def wgN (tn : (Nat → UInt8) → Nat → Nat → UInt8) (key : Nat → UInt8) (i q : Nat) : UInt8 := wGen tn key i ((i - 8) * 4 + (q - i * 4)) ^^^ tn (fun j => wGen tn key i ((i - 1) * 4 + j)) i (q - i * 4)
theorem wg_turn {tn : (Nat → UInt8) → Nat → Nat → UInt8} {key : Nat → UInt8} {i n : Nat} (hi : ¬ i < 8) (hn : n = 4) : ns vb 240 (fun q => if i * 4 ≤ q ∧ q < i * 4 + n then wgN tn key i q else wGen tn key i q) = ns vb 240 (wGen tn key (i + 1)) := by
  subst hn
  apply ns_ext
  intro q _
  simp only [wGen]
  by_cases h : i * 4 ≤ q ∧ q < i * 4 + 4
  · rw [if_pos h, if_pos h, if_neg hi]; rfl
  · rw [if_neg h, if_neg h]
theorem wg_x {tn : (Nat → UInt8) → Nat → Nat → UInt8} {key : Nat → UInt8} {i n : Nat} : wGen tn key i ((i - 8) * 4 + n) ^^^ tn (fun j => wGen tn key i ((i - 1) * 4 + j)) i n = wgN tn key i (i * 4 + n) := by
  rw [wgN, Nat.add_sub_cancel_left]
theorem sch_step {W : Nat → UInt8} {k : Nat} (hk : k < 60) : ns vb 240 (fun q => if k / 4 * 16 + 4 * (k % 4) ≤ q ∧ q < k / 4 * 16 + 4 * (k % 4) + 4 then W (k * 4 + (q - (k / 4 * 16 + 4 * (k % 4)))) else if q < 4 * k then W q else 0) = ns vb 240 (fun q => if q < 4 * (k + 1) then W q else 0) := by
  apply ns_ext
  intro q _
  rw [show k / 4 * 16 + 4 * (k % 4) = 4 * k from by omega]
  by_cases h : 4 * k ≤ q ∧ q < 4 * k + 4
  · rw [if_pos h, if_pos (by omega), show k * 4 + (q - 4 * k) = q from by omega]
  · rw [if_neg h]
    by_cases h2 : q < 4 * k
    · rw [if_pos h2, if_pos (by omega)]
    · rw [if_neg h2, if_neg (by omega)]
theorem SZ98 : TSlc Tryd.prog 98 81 16 := ⟨by kernel_rfl, by kernel_rfl⟩
theorem aes_turned_ct (x : Nat → UInt8) (i : Nat) (h0 : 8 ≤ i) (h1 : i < 60) (w : World) : Ct0 Tryd.prog 113 #[.agg (ns vb 4 (x)).toArray, vi i] w (.agg (ns vb 4 (turnF x i)).toArray) := by
  refine ct0_of Tryd.func113 rfl Tryd.ntmps113 rfl ?_
  refine hc_seq ?_
  refine hc_region ?_
  refine hl_i rfl rfl rfl (e_boxa rfl rfl) ?_; intro g2
  refine hl_i rfl rfl rfl (e_alloc rfl Z99) ?_; intro g4
  refine hl_nil ?_
  refine hq_then ?_
  refine hc_seq ?_
  refine hc_seq ?_
  refine hc_region ?_
  refine hl_y rfl rfl rfl (y_move rfl rfl) ?_
  refine hl_y rfl rfl rfl (y_remn (q := 8) rfl rfl rfl (by omega)) ?_
  refine hl_y rfl rfl rfl (y_eqln (q := 0) rfl rfl rfl ) ?_
  refine hl_nil ?_
  refine hq_then ?_
  refine hc_if rfl (fun c0 => ?_) (fun c0 => ?_)
  · replace c0 := of_decide_eq_true c0
    refine hc_region ?_
    refine hl_y rfl rfl rfl (y_ixa1 (k := 1) rfl T99 O5 rfl rfl (by omega)) ?_
    refine hl_y rfl rfl rfl (y_ldn 1 rfl O5 rfl rfl (by omega)) ?_
    refine hl_y rfl rfl rfl (y_ixa1 (k := 2) rfl T99 O5 rfl rfl (by omega)) ?_
    refine hl_y rfl rfl rfl (y_ldn 1 rfl O5 rfl rfl (by omega)) ?_
    refine hl_y rfl rfl rfl (y_ixa1 (k := 3) rfl T99 O5 rfl rfl (by omega)) ?_
    refine hl_y rfl rfl rfl (y_ldn 1 rfl O5 rfl rfl (by omega)) ?_
    refine hl_y rfl rfl rfl (y_ixa1 (k := 0) rfl T99 O5 rfl rfl (by omega)) ?_
    refine hl_y rfl rfl rfl (y_ldn 1 rfl O5 rfl rfl (by omega)) ?_
    refine hl_y rfl rfl rfl (y_bu4 (rotF x) rfl T99 O5 Z99 rfl rfl rfl rfl) ?_
    refine hl_i0 rfl rfl (e_stw 1 rfl T99.2 rfl rfl rfl (ns_oneb _ _)) ?_; intro _
    refine hl_nil ?_
    refine hq_then ?_
    refine hc_seq ?_
    refine hc_seq ?_
    refine hc_region ?_
    refine hl_y rfl rfl rfl (y_move rfl rfl) ?_
    refine hl_y rfl rfl rfl (y_remn (q := 4) rfl rfl rfl (by omega)) ?_
    refine hl_y rfl rfl rfl (y_neqn (q := 0) rfl rfl rfl ) ?_
    refine hl_nil ?_
    refine hq_then ?_
    refine hc_if rfl (fun c1 => ?_) (fun c1 => ?_)
    · replace c1 := of_decide_eq_true c1
      exfalso; omega
    · replace c1 := of_decide_eq_false c1
      refine hc_skip ?_
      refine hq_then ?_
      refine hc_seq ?_
      refine hc_seq ?_
      refine hc_region ?_
      refine hl_y rfl rfl rfl (y_ldw 1 rfl T99 rfl rfl) ?_
      refine hl_y rfl rfl rfl (y_move (v := vi 0) rfl rfl) ?_
      refine hl_nil ?_
      refine hq_then ?_
      refine hc_block ?_
      refine hc_loop (fun k => k ≤ 4) (fun k => 4 - k) (fun k => [(2, .pointer (some ⟨g2, 0, none⟩)), (4, .pointer (some ⟨g4, 0, none⟩)), (1, vi i), (24, vi k), (23, .agg (ns vb 4 (rotF x)).toArray)]) (fun k => Mm w [.blk g4 99 (ns vb 4 (fun _ => 0)), .blk g2 99 (ns vb 4 (fun i => if i < k then (fun j => boxT (rotF x j)) i else rotF x i))]) (0) (by omega) ⟨rfl, rfl, lk_int rfl (by omega), lk_int rfl (by omega), rfl, trivial⟩ (fun _ h => Mm.mm h (by simp; try rfl)) ?_
      intro k hk
      refine hc_seq ?_
      refine hc_region ?_
      refine hl_y rfl rfl rfl (y_lssn (q := 4) rfl rfl rfl ) ?_
      refine hl_nil ?_
      refine hq_then ?_
      refine hc_seq ?_
      refine hc_if rfl (fun c2 => ?_) (fun c2 => ?_)
      · replace c2 := of_decide_eq_true c2
        refine hc_skip ?_
        refine hq_then ?_
        refine hc_seq ?_
        refine hc_block ?_
        refine hc_seq ?_
        refine hc_region ?_
        refine hl_y rfl rfl rfl (y_move rfl rfl) ?_
        refine hl_y rfl rfl rfl (y_ixn rfl T99 O5 rfl rfl (by omega) (by omega)) ?_
        refine hl_y rfl rfl rfl (y_assign rfl rfl) ?_
        refine hl_y rfl rfl rfl (y_assign rfl rfl) ?_
        refine hl_nil ?_
        refine hq_then ?_
        refine hc_region ?_
        refine hl_y rfl rfl rfl (y_move rfl rfl) ?_
        refine hl_y rfl rfl rfl (y_move rfl rfl) ?_
        refine hl_i rfl rfl rfl (e_call0 rfl F115 rfl (fun w hw => gf_Box_ct _ w) rfl) ?_; intro _
        refine hl_y rfl rfl rfl (y_ixa1 rfl T99 O5 rfl rfl (by omega)) ?_
        refine hl_i0 rfl rfl (e_stn 1 rfl O5.2 rfl rfl rfl rfl (by omega)) ?_; intro _
        refine hl_nil ?_
        refine hq_in (hq_then ?_)
        refine hc_region ?_
        refine hl_y rfl rfl rfl (y_addn (q := 1) rfl rfl rfl (by omega)) ?_
        refine hl_y rfl rfl rfl (y_move rfl rfl) ?_
        refine hl_nil ?_
        exact hq_round (k + 1) (by omega) (by omega) ⟨rfl, rfl, lk_int rfl (by omega), lk_int rfl (by omega), rfl, trivial⟩ (fun _ h => Mm.set h 1 rfl (ns_step (f := fun j => boxT (rotF x j)) (g := rotF x) rfl))
      · replace c2 := of_decide_eq_false c2
        refine hc_exit ?_
        refine hq_then_exit (hq_loop_exit (hq_in_same (hq_then ?_)))
        refine hc_seq ?_
        refine hc_seq ?_
        refine hc_region ?_
        refine hl_y rfl rfl rfl (y_move rfl rfl) ?_
        refine hl_y rfl rfl rfl (y_remn (q := 8) rfl rfl rfl (by omega)) ?_
        refine hl_y rfl rfl rfl (y_eqln (q := 0) rfl rfl rfl ) ?_
        refine hl_nil ?_
        refine hq_then ?_
        refine hc_if rfl (fun c3 => ?_) (fun c3 => ?_)
        · replace c3 := of_decide_eq_true c3
          refine hc_drawP [] follows_mixed ?_
          refine hh_y 0 rfl rfl rfl rfl (by kernel_rfl) (by kernel_rfl) (by kernel_rfl) (fun _ h => Mm.pick h [] (by decide)) (y_ixa1 (k := 0) rfl T99 O5 rfl rfl (by omega)) ?_
          refine hh_y 2 rfl rfl rfl rfl (by kernel_rfl) (by kernel_rfl) (by kernel_rfl) (fun _ h => Mm.pick h [] (by decide)) (y_move rfl rfl) ?_
          refine hh_y 3 rfl rfl rfl rfl (by kernel_rfl) (by kernel_rfl) (by kernel_rfl) (fun _ h => Mm.pick h [] (by decide)) (y_quon (q := 8) rfl rfl rfl (by omega) (by omega)) ?_
          refine hh_y 4 rfl rfl rfl rfl (by kernel_rfl) (by kernel_rfl) (by kernel_rfl) (fun _ h => Mm.pick h [] (by decide)) (y_subn (q := 1) rfl rfl rfl (by omega) (by omega)) ?_
          refine hh_pair 1 5 (.inl (by kernel_rfl)) (by kernel_rfl) (by kernel_rfl) rfl rfl rfl rfl rfl rfl rfl rfl rfl rfl (e_call0 rfl F119 rfl (fun w hw => gf_Power_ct 2 ((i / 8) - 1) _ (by omega) rfl w) rfl) (ef_y (y_as (y_ldn 1 rfl O5 rfl rfl (by omega)) rfl)) (by intro _; exact ef_y (y_as (y_ldn 1 rfl O5 rfl rfl (by omega)) rfl)) (fun _ h => Mm.pick h [] (by decide)) (fun _ _ h => Mm.pick h [] (by decide)) rfl rfl ?_; intro _
          refine hh_y 6 rfl rfl rfl rfl (by kernel_rfl) (by kernel_rfl) (by kernel_rfl) (fun _ h => Mm.pick h [] (by decide)) (y_xorb rfl rfl rfl) ?_
          refine hh_y 7 rfl rfl rfl rfl (by kernel_rfl) (by kernel_rfl) (by kernel_rfl) (fun _ h => Mm.pick h [] (by decide)) (y_ixa1 (k := 0) rfl T99 O5 rfl rfl (by omega)) ?_
          refine hh_i0 8 rfl rfl rfl (by kernel_rfl) (e_stn 1 rfl O5.2 rfl rfl rfl rfl (by omega)) (fun _ _ h => Mm.pick_set h [] (by decide) (by decide)) ?_; intro _
          refine hh_done (by kernel_rfl) ?_
          refine hq_then ?_
          refine hc_seq ?_
          refine hc_region ?_
          refine hl_y rfl rfl rfl (y_ldw 1 rfl T99 rfl rfl) ?_
          refine hl_i0 rfl rfl (e_stw 0 rfl T99.2 rfl rfl rfl (ns_oneb _ _)) ?_; intro _
          refine hl_nil ?_
          refine hq_then ?_
          refine hc_ret ?_
          exact hq_ret1 (()) rfl (rv_arr 0 rfl T99 rfl (ns_len _ _).symm) (agg_ext fun j hj => turn_T (by omega) hj (by omega)) (fun _ h => Mm.pick h [] (by simp))
        · replace c3 := of_decide_eq_false c3
          exfalso; omega
  · replace c0 := of_decide_eq_false c0
    refine hc_skip ?_
    refine hq_then ?_
    refine hc_seq ?_
    refine hc_seq ?_
    refine hc_region ?_
    refine hl_y rfl rfl rfl (y_move rfl rfl) ?_
    refine hl_y rfl rfl rfl (y_remn (q := 4) rfl rfl rfl (by omega)) ?_
    refine hl_y rfl rfl rfl (y_neqn (q := 0) rfl rfl rfl ) ?_
    refine hl_nil ?_
    refine hq_then ?_
    refine hc_if rfl (fun c4 => ?_) (fun c4 => ?_)
    · replace c4 := of_decide_eq_true c4
      refine hc_seq ?_
      refine hc_region ?_
      refine hl_y rfl rfl rfl (y_ldw 1 rfl T99 rfl rfl) ?_
      refine hl_i0 rfl rfl (e_stw 0 rfl T99.2 rfl rfl rfl (ns_oneb _ _)) ?_; intro _
      refine hl_nil ?_
      refine hq_then ?_
      refine hc_ret ?_
      exact hq_then_ret (hq_ret1 (()) rfl (rv_arr 0 rfl T99 rfl (ns_len _ _).symm) (agg_ext fun j hj => turn_N (by omega) (by omega)) (fun _ h => Mm.pick h [] (by simp)))
    · replace c4 := of_decide_eq_false c4
      refine hc_skip ?_
      refine hq_then ?_
      refine hc_seq ?_
      refine hc_seq ?_
      refine hc_region ?_
      refine hl_y rfl rfl rfl (y_ldw 1 rfl T99 rfl rfl) ?_
      refine hl_y rfl rfl rfl (y_move (v := vi 0) rfl rfl) ?_
      refine hl_nil ?_
      refine hq_then ?_
      refine hc_block ?_
      refine hc_loop (fun k => k ≤ 4) (fun k => 4 - k) (fun k => [(2, .pointer (some ⟨g2, 0, none⟩)), (4, .pointer (some ⟨g4, 0, none⟩)), (1, vi i), (24, vi k), (23, .agg (ns vb 4 (x)).toArray)]) (fun k => Mm w [.blk g4 99 (ns vb 4 (fun _ => 0)), .blk g2 99 (ns vb 4 (fun i => if i < k then (fun j => boxT (x j)) i else x i))]) (0) (by omega) ⟨rfl, rfl, lk_int rfl (by omega), lk_int rfl (by omega), rfl, trivial⟩ (fun _ h => Mm.mm h (by simp; try rfl)) ?_
      intro k hk
      refine hc_seq ?_
      refine hc_region ?_
      refine hl_y rfl rfl rfl (y_lssn (q := 4) rfl rfl rfl ) ?_
      refine hl_nil ?_
      refine hq_then ?_
      refine hc_seq ?_
      refine hc_if rfl (fun c5 => ?_) (fun c5 => ?_)
      · replace c5 := of_decide_eq_true c5
        refine hc_skip ?_
        refine hq_then ?_
        refine hc_seq ?_
        refine hc_block ?_
        refine hc_seq ?_
        refine hc_region ?_
        refine hl_y rfl rfl rfl (y_move rfl rfl) ?_
        refine hl_y rfl rfl rfl (y_ixn rfl T99 O5 rfl rfl (by omega) (by omega)) ?_
        refine hl_y rfl rfl rfl (y_assign rfl rfl) ?_
        refine hl_y rfl rfl rfl (y_assign rfl rfl) ?_
        refine hl_nil ?_
        refine hq_then ?_
        refine hc_region ?_
        refine hl_y rfl rfl rfl (y_move rfl rfl) ?_
        refine hl_y rfl rfl rfl (y_move rfl rfl) ?_
        refine hl_i rfl rfl rfl (e_call0 rfl F115 rfl (fun w hw => gf_Box_ct _ w) rfl) ?_; intro _
        refine hl_y rfl rfl rfl (y_ixa1 rfl T99 O5 rfl rfl (by omega)) ?_
        refine hl_i0 rfl rfl (e_stn 1 rfl O5.2 rfl rfl rfl rfl (by omega)) ?_; intro _
        refine hl_nil ?_
        refine hq_in (hq_then ?_)
        refine hc_region ?_
        refine hl_y rfl rfl rfl (y_addn (q := 1) rfl rfl rfl (by omega)) ?_
        refine hl_y rfl rfl rfl (y_move rfl rfl) ?_
        refine hl_nil ?_
        exact hq_round (k + 1) (by omega) (by omega) ⟨rfl, rfl, lk_int rfl (by omega), lk_int rfl (by omega), rfl, trivial⟩ (fun _ h => Mm.set h 1 rfl (ns_step (f := fun j => boxT (x j)) (g := x) rfl))
      · replace c5 := of_decide_eq_false c5
        refine hc_exit ?_
        refine hq_then_exit (hq_loop_exit (hq_in_same (hq_then ?_)))
        refine hc_seq ?_
        refine hc_seq ?_
        refine hc_region ?_
        refine hl_y rfl rfl rfl (y_move rfl rfl) ?_
        refine hl_y rfl rfl rfl (y_remn (q := 8) rfl rfl rfl (by omega)) ?_
        refine hl_y rfl rfl rfl (y_eqln (q := 0) rfl rfl rfl ) ?_
        refine hl_nil ?_
        refine hq_then ?_
        refine hc_if rfl (fun c6 => ?_) (fun c6 => ?_)
        · replace c6 := of_decide_eq_true c6
          exfalso; omega
        · replace c6 := of_decide_eq_false c6
          refine hc_skip ?_
          refine hq_then ?_
          refine hc_seq ?_
          refine hc_region ?_
          refine hl_y rfl rfl rfl (y_ldw 1 rfl T99 rfl rfl) ?_
          refine hl_i0 rfl rfl (e_stw 0 rfl T99.2 rfl rfl rfl (ns_oneb _ _)) ?_; intro _
          refine hl_nil ?_
          refine hq_then ?_
          refine hc_ret ?_
          exact hq_ret1 (()) rfl (rv_arr 0 rfl T99 rfl (ns_len _ _).symm) (agg_ext fun j hj => turn_F (by omega) (by omega) (by omega)) (fun _ h => Mm.pick h [] (by simp))

theorem aes_Schedule_ct (l : List UInt8) (v : Value) (w : World) (hv : Rd w v (ls vb l)) : Ct0 Tryd.prog 101 #[v] w (.tuple #[.agg (ns vb 240 (schF l)).toArray, vi (schFault l)]) := by
  refine ct0_of Tryd.func101 rfl Tryd.ntmps101 rfl ?_
  refine hc_seq ?_
  refine hc_region ?_
  refine hl_i rfl rfl rfl (e_alloc rfl Z83) ?_; intro g2
  refine hl_y rfl rfl rfl (y_assign (v := vi 0) rfl rfl) ?_
  refine hl_nil ?_
  refine hq_then ?_
  refine hc_scope ?_
  refine hc_seq ?_
  refine hc_seq ?_
  refine hc_region ?_
  refine hl_y rfl rfl rfl (y_move rfl rfl) ?_
  refine hl_y rfl rfl rfl (y_lenE (l.length) rfl rfl S22 rfl (rdF hv) (by first | rfl | simp only [ls_len, ns_len] | (simp only [ls_len, ns_len]; omega))) ?_
  refine hl_y rfl rfl rfl (y_neqn (q := 32) rfl rfl rfl ) ?_
  refine hl_nil ?_
  refine hq_then ?_
  refine hc_if rfl (fun c0 => ?_) (fun c0 => ?_)
  · replace c0 := of_decide_eq_true c0
    refine hc_seq ?_
    refine hc_region ?_
    refine hl_y rfl rfl rfl (y_ldw 0 rfl T83 rfl rfl) ?_
    refine hl_i0 rfl rfl (e_stw 0 rfl T83.2 rfl rfl rfl (ns_oneb _ _)) ?_; intro _
    refine hl_y rfl rfl rfl (y_assign (v := vi 4) rfl rfl) ?_
    refine hl_nil ?_
    refine hq_then ?_
    refine hc_ret ?_
    exact hq_then_ret (hq_scope_ret (hq_ret2 (()) rfl (rv_arr 0 rfl T83 rfl (ns_len _ _).symm) (rv_tmp rfl) (by rw [schF, schFault, if_neg (by omega), if_neg (by omega)]) (fun _ h => Mm.pick h [] (by simp))))
  · replace c0 := of_decide_eq_false c0
    refine hc_skip ?_
    refine hq_then ?_
    refine hc_seq ?_
    refine hc_region ?_
    refine hl_i rfl rfl rfl (e_alloc rfl Z100) ?_; intro g4
    refine hl_nil ?_
    refine hq_then ?_
    refine hc_seq ?_
    refine hc_label ?_
    refine hq_then ?_
    refine hc_seq ?_
    refine hc_seq ?_
    refine hc_region ?_
    refine hl_y rfl rfl rfl (y_move (v := vi 0) rfl rfl) ?_
    refine hl_nil ?_
    refine hq_then ?_
    refine hc_block ?_
    refine hc_loop (fun i => i ≤ 60) (fun i => 60 - i) (fun i => [(2, .pointer (some ⟨g2, 0, none⟩)), (4, .pointer (some ⟨g4, 0, none⟩)), (0, v), (15, vi i)]) (fun i => Mm w [.blk g4 100 (ns vb 240 (wGen turnF (keyF l) i)), .blk g2 83 (ns vb 240 (fun _ => 0))]) (0) (by omega) ⟨rfl, rfl, rfl, lk_int rfl (by omega), trivial⟩ (fun _ h => h) ?_
    intro i hi
    refine hc_seq ?_
    refine hc_region ?_
    refine hl_y rfl rfl rfl (y_lssn (q := 60) rfl rfl rfl ) ?_
    refine hl_nil ?_
    refine hq_then ?_
    refine hc_seq ?_
    refine hc_if rfl (fun c1 => ?_) (fun c1 => ?_)
    · replace c1 := of_decide_eq_true c1
      refine hc_skip ?_
      refine hq_then ?_
      refine hc_seq ?_
      refine hc_block ?_
      refine hc_seq ?_
      refine hc_region ?_
      refine hl_y rfl rfl rfl (y_move rfl rfl) ?_
      refine hl_y rfl rfl rfl (y_assign rfl rfl) ?_
      refine hl_nil ?_
      refine hq_then ?_
      refine hc_seq ?_
      refine hc_seq ?_
      refine hc_region ?_
      refine hl_y rfl rfl rfl (y_move rfl rfl) ?_
      refine hl_y rfl rfl rfl (y_lssn (q := 8) rfl rfl rfl ) ?_
      refine hl_nil ?_
      refine hq_then ?_
      refine hc_if rfl (fun c2 => ?_) (fun c2 => ?_)
      · replace c2 := of_decide_eq_true c2
        refine hc_seq ?_
        refine hc_region ?_
        refine hl_y rfl rfl rfl (y_move rfl rfl) ?_
        refine hl_y rfl rfl rfl (y_move rfl rfl) ?_
        refine hl_y rfl rfl rfl (y_move rfl rfl) ?_
        refine hl_y rfl rfl rfl (y_muln (p := 4) rfl rfl rfl (by omega)) ?_
        refine hl_y rfl rfl rfl (y_slc (hi := l.length) rfl S22 rfl (rdF hv) rfl (by first | rfl | (simp only [ls_len, ns_len]; done) | (simp only [ls_len, ns_len]; omega)) (by first | omega | (simp only [ls_len, ns_len]; omega) | (simp only [List.length_take, List.length_drop, ls_len, ns_len]; omega))) ?_
        refine hl_y rfl rfl rfl (y_s2a rfl T99 rfl ((RdM.slc (rdF hv) (lo := (4 * i)) (hi := l.length) (by omega) (by first | omega | (simp only [ls_len, ns_len]; omega) | (simp only [List.length_take, List.length_drop, ls_len, ns_len]; omega)))) (by first | omega | (simp only [ls_len, ns_len]; omega) | (simp only [List.length_take, List.length_drop, ls_len, ns_len]; omega)) (by decide)) ?_
        refine hl_y rfl rfl rfl (y_ldsa rfl T99 rfl ((RdM.slc (rdF hv) (lo := (4 * i)) (hi := l.length) (by omega) (by first | omega | (simp only [ls_len, ns_len]; omega) | (simp only [List.length_take, List.length_drop, ls_len, ns_len]; omega)))) (ls_fn_sl (by omega) (by omega)) (by first | omega | (simp only [ls_len, ns_len]; omega) | (simp only [List.length_take, List.length_drop, ls_len, ns_len]; omega))) ?_
        refine hl_y rfl rfl rfl (y_ixaz rfl T100 T99 rfl rfl (by omega)) ?_
        refine hl_i0 rfl rfl (e_stp 0 rfl T99.2 rfl rfl rfl (ns_oneb _ _) (by omega)) ?_; intro _
        refine hl_nil ?_
        refine hq_then ?_
        refine hc_exit ?_
        refine hq_then_exit (hq_in_same (hq_then ?_))
        refine hc_region ?_
        refine hl_y rfl rfl rfl (y_addn (q := 1) rfl rfl rfl (by omega)) ?_
        refine hl_y rfl rfl rfl (y_move rfl rfl) ?_
        refine hl_nil ?_
        exact hq_round (i + 1) (by omega) (by omega) ⟨rfl, rfl, rfl, lk_int rfl (by omega), trivial⟩ (fun _ h => Mm.set h 0 rfl (wg_key (by omega)))
      · replace c2 := of_decide_eq_false c2
        refine hc_skip ?_
        refine hq_then ?_
        refine hc_seq ?_
        refine hc_region ?_
        refine hl_y rfl rfl rfl (y_move rfl rfl) ?_
        refine hl_y rfl rfl rfl (y_subn (q := 1) rfl rfl rfl (by omega) (by omega)) ?_
        refine hl_y rfl rfl rfl (y_ixaz rfl T100 T99 rfl rfl (by omega)) ?_
        refine hl_y rfl rfl rfl (y_ldp 0 rfl T99 rfl rfl (by omega)) ?_
        refine hl_y rfl rfl rfl (y_move rfl rfl) ?_
        refine hl_i rfl rfl rfl (e_call0 rfl F113 rfl (fun w hw => aes_turned_ct _ _ (by omega) (by omega) w) rfl) ?_; intro _
        refine hl_i rfl rfl rfl (e_alloc rfl Z99) ?_; intro g6
        refine hl_i0 rfl rfl (e_stw 0 rfl T99.2 rfl rfl rfl (ns_oneb _ _)) ?_; intro _
        refine hl_nil ?_
        refine hq_then ?_
        refine hc_seq ?_
        refine hc_region ?_
        refine hl_y rfl rfl rfl (y_move rfl rfl) ?_
        refine hl_y rfl rfl rfl (y_subn (q := 8) rfl rfl rfl (by omega) (by omega)) ?_
        refine hl_y rfl rfl rfl (y_ixaz rfl T100 T99 rfl rfl (by omega)) ?_
        refine hl_y rfl rfl rfl (y_ldp 1 rfl T99 rfl rfl (by omega)) ?_
        refine hl_y rfl rfl rfl (y_move (v := vi 0) rfl rfl) ?_
        refine hl_nil ?_
        refine hq_then ?_
        refine hc_block ?_
        refine hc_loop (fun n => n ≤ 4) (fun n => 4 - n) (fun n => [(2, .pointer (some ⟨g2, 0, none⟩)), (4, .pointer (some ⟨g4, 0, none⟩)), (0, v), (6, .pointer (some ⟨g6, 0, none⟩)), (5, vi i), (15, vi i), (38, vi n), (37, .agg (ns vb 4 (fun j => wGen turnF (keyF l) i ((i - 8) * 4 + j))).toArray)]) (fun n => Mm w [.blk g6 99 (ns vb 4 (turnF (fun j => wGen turnF (keyF l) i ((i - 1) * 4 + j)) i)), .blk g4 100 (ns vb 240 (fun q => if i * 4 ≤ q ∧ q < i * 4 + n then wgN turnF (keyF l) i q else wGen turnF (keyF l) i q)), .blk g2 83 (ns vb 240 (fun _ => 0))]) (0) (by omega) ⟨rfl, rfl, rfl, rfl, lk_int rfl (by omega), lk_int rfl (by omega), lk_int rfl (by omega), rfl, trivial⟩ (fun _ h => Mm.set h 1 rfl (ns_ext fun q _ => by rw [if_neg (by omega)])) ?_
        intro n hn
        refine hc_seq ?_
        refine hc_region ?_
        refine hl_y rfl rfl rfl (y_lssn (q := 4) rfl rfl rfl ) ?_
        refine hl_nil ?_
        refine hq_then ?_
        refine hc_seq ?_
        refine hc_if rfl (fun c3 => ?_) (fun c3 => ?_)
        · replace c3 := of_decide_eq_true c3
          refine hc_skip ?_
          refine hq_then ?_
          refine hc_seq ?_
          refine hc_block ?_
          refine hc_seq ?_
          refine hc_region ?_
          refine hl_y rfl rfl rfl (y_move rfl rfl) ?_
          refine hl_y rfl rfl rfl (y_ixn rfl T99 O5 rfl rfl (by omega) (by omega)) ?_
          refine hl_y rfl rfl rfl (y_assign rfl rfl) ?_
          refine hl_y rfl rfl rfl (y_assign rfl rfl) ?_
          refine hl_nil ?_
          refine hq_then ?_
          refine hc_drawP [0] follows_mixed ?_
          refine hh_y 0 rfl rfl rfl rfl (by kernel_rfl) (by kernel_rfl) (by kernel_rfl) (fun _ h => Mm.pick h [0] (by decide)) (y_move rfl rfl) ?_
          refine hh_y 1 rfl rfl rfl rfl (by kernel_rfl) (by kernel_rfl) (by kernel_rfl) (fun _ h => Mm.pick h [0] (by decide)) (y_move rfl rfl) ?_
          refine hh_y 2 rfl rfl rfl rfl (by kernel_rfl) (by kernel_rfl) (by kernel_rfl) (fun _ h => Mm.pick h [0] (by decide)) (y_move rfl rfl) ?_
          refine hh_y 3 rfl rfl rfl rfl (by kernel_rfl) (by kernel_rfl) (by kernel_rfl) (fun _ h => Mm.pick h [0] (by decide)) (y_move rfl rfl) ?_
          refine hh_y 4 rfl rfl rfl rfl (by kernel_rfl) (by kernel_rfl) (by kernel_rfl) (fun _ h => Mm.pick h [0] (by decide)) (y_ixa1 rfl T99 O5 rfl rfl (by omega)) ?_
          refine hh_y 5 rfl rfl rfl rfl (by kernel_rfl) (by kernel_rfl) (by kernel_rfl) (fun _ h => Mm.pick h [0] (by decide)) (y_ldn 0 rfl O5 rfl rfl (by omega)) ?_
          refine hh_y 6 rfl rfl rfl rfl (by kernel_rfl) (by kernel_rfl) (by kernel_rfl) (fun _ h => Mm.pick h [0] (by decide)) (y_xorb rfl rfl rfl) ?_
          refine hh_y 7 rfl rfl rfl rfl (by kernel_rfl) (by kernel_rfl) (by kernel_rfl) (fun _ h => Mm.pick h [0] (by decide)) (y_ixaz rfl T100 T99 rfl rfl (by omega)) ?_
          refine hh_y 8 rfl rfl rfl rfl (by kernel_rfl) (by kernel_rfl) (by kernel_rfl) (fun _ h => Mm.pick h [0] (by decide)) (y_ixaq rfl T99 O5 rfl rfl (by omega)) ?_
          refine hh_i0 9 rfl rfl rfl (by kernel_rfl) (e_stn 1 rfl O5.2 rfl rfl rfl rfl (by omega)) (fun _ _ h => Mm.pick_set h [0] (by decide) (by decide)) ?_; intro _
          refine hh_done (by kernel_rfl) ?_
          refine hq_in (hq_then ?_)
          refine hc_region ?_
          refine hl_y rfl rfl rfl (y_addn (q := 1) rfl rfl rfl (by omega)) ?_
          refine hl_y rfl rfl rfl (y_move rfl rfl) ?_
          refine hl_nil ?_
          exact hq_round (n + 1) (by omega) (by omega) ⟨rfl, rfl, rfl, rfl, lk_int rfl (by omega), lk_int rfl (by omega), lk_int rfl (by omega), rfl, trivial⟩ (fun _ h => Mm.set h 1 rfl (ns_step2 (f := wgN turnF (keyF l) i) (g := wGen turnF (keyF l) i) wg_x))
        · replace c3 := of_decide_eq_false c3
          refine hc_exit ?_
          refine hq_then_exit (hq_loop_exit (hq_in_same (hq_in (hq_then ?_))))
          refine hc_region ?_
          refine hl_y rfl rfl rfl (y_addn (q := 1) rfl rfl rfl (by omega)) ?_
          refine hl_y rfl rfl rfl (y_move rfl rfl) ?_
          refine hl_nil ?_
          exact hq_round (i + 1) (by omega) (by omega) ⟨rfl, rfl, rfl, lk_int rfl (by omega), trivial⟩ (fun _ h => (Mm.pick h [1, 2] (by decide)).set 0 rfl (wg_turn (by omega) (by omega)))
    · replace c1 := of_decide_eq_false c1
      obtain rfl : i = 60 := by omega
      refine hc_exit ?_
      refine hq_then_exit (hq_loop_exit (hq_in_same (hq_then ?_)))
      refine hc_seq ?_
      refine hc_seq ?_
      refine hc_region ?_
      refine hl_y rfl rfl rfl (y_ldw 0 rfl T100 rfl rfl) ?_
      refine hl_y rfl rfl rfl (y_move (v := vi 0) rfl rfl) ?_
      refine hl_nil ?_
      refine hq_then ?_
      refine hc_block ?_
      refine hc_loop (fun k => k ≤ 60) (fun k => 60 - k) (fun k => [(2, .pointer (some ⟨g2, 0, none⟩)), (54, vi k), (53, .agg (ns vb 240 (wGen turnF (keyF l) 60)).toArray)]) (fun k => Mm w [.blk g2 83 (ns vb 240 (fun i => if i < 4 * k then (wGen turnF (keyF l) 60) i else 0))]) (0) (by omega) ⟨rfl, lk_int rfl (by omega), rfl, trivial⟩ (fun _ h => (Mm.pick h [1] (by decide)).mm (by simp)) ?_
      intro k hk
      refine hc_seq ?_
      refine hc_region ?_
      refine hl_y rfl rfl rfl (y_lssn (q := 60) rfl rfl rfl ) ?_
      refine hl_nil ?_
      refine hq_then ?_
      refine hc_seq ?_
      refine hc_if rfl (fun c4 => ?_) (fun c4 => ?_)
      · replace c4 := of_decide_eq_true c4
        refine hc_skip ?_
        refine hq_then ?_
        refine hc_seq ?_
        refine hc_block ?_
        refine hc_seq ?_
        refine hc_region ?_
        refine hl_y rfl rfl rfl (y_move rfl rfl) ?_
        refine hl_y rfl rfl rfl (y_ixnp rfl T100 T99 rfl rfl (by omega) (by omega)) ?_
        refine hl_i rfl rfl rfl (e_alloc rfl Z99) ?_; intro g10
        refine hl_y rfl rfl rfl (y_assign rfl rfl) ?_
        refine hl_i0 rfl rfl (e_stw 0 rfl T99.2 rfl rfl rfl (ns_oneb _ _)) ?_; intro _
        refine hl_nil ?_
        refine hq_then ?_
        refine hc_drawP [] follows_mixed ?_
        refine hh_y 0 rfl rfl rfl rfl (by kernel_rfl) (by kernel_rfl) (by kernel_rfl) (fun _ h => Mm.pick h [] (by decide)) (y_move rfl rfl) ?_
        refine hh_y 1 rfl rfl rfl rfl (by kernel_rfl) (by kernel_rfl) (by kernel_rfl) (fun _ h => Mm.pick h [] (by decide)) (y_quon (q := 4) rfl rfl rfl (by omega) (by omega)) ?_
        refine hh_y 2 rfl rfl rfl rfl (by kernel_rfl) (by kernel_rfl) (by kernel_rfl) (fun _ h => Mm.pick h [] (by decide)) (y_ixaz rfl T83 T81 rfl rfl (by omega)) ?_
        refine hh_y 3 rfl rfl rfl rfl (by kernel_rfl) (by kernel_rfl) (by kernel_rfl) (fun _ h => Mm.pick h [] (by decide)) (y_move rfl rfl) ?_
        refine hh_y 4 rfl rfl rfl rfl (by kernel_rfl) (by kernel_rfl) (by kernel_rfl) (fun _ h => Mm.pick h [] (by decide)) (y_remn (q := 4) rfl rfl rfl (by omega)) ?_
        refine hh_y 5 rfl rfl rfl rfl (by kernel_rfl) (by kernel_rfl) (by kernel_rfl) (fun _ h => Mm.pick h [] (by decide)) (y_muln (p := 4) rfl rfl rfl (by omega)) ?_
        refine hh_y 6 rfl rfl rfl rfl (by kernel_rfl) (by kernel_rfl) (by kernel_rfl) (fun _ h => Mm.pick h [] (by decide)) (y_slcalF (n' := (16 - 4 * (k % 4))) rfl T81 O5 rfl rfl (by omega) (by omega)) ?_
        refine hh_y 7 rfl rfl rfl rfl (by kernel_rfl) (by kernel_rfl) (by kernel_rfl) (fun _ h => Mm.pick h [] (by decide)) (y_slcaw rfl T99 O5 rfl (by omega)) ?_
        refine hh_i 8 rfl rfl rfl rfl (by kernel_rfl) (e_cpn 1 rfl S22 rfl rfl rfl (rdB 0 rfl (ns_sub0 (by omega)) (ns_len _ _) (by omega)) (by omega) (by omega)) (fun _ _ h => Mm.pick_set h [] (by decide) (by decide)) ?_; intro _
        refine hh_done (by kernel_rfl) ?_
        refine hq_in (hq_then ?_)
        refine hc_region ?_
        refine hl_y rfl rfl rfl (y_addn (q := 1) rfl rfl rfl (by omega)) ?_
        refine hl_y rfl rfl rfl (y_move rfl rfl) ?_
        refine hl_nil ?_
        exact hq_round (k + 1) (by omega) (by omega) ⟨rfl, lk_int rfl (by omega), rfl, trivial⟩ (fun _ h => (Mm.pick h [1] (by decide)).set 0 rfl (sch_step (by omega)))
      · replace c4 := of_decide_eq_false c4
        refine hc_exit ?_
        refine hq_then_exit (hq_loop_exit (hq_in_same (hq_then ?_)))
        refine hc_seq ?_
        refine hc_region ?_
        refine hl_y rfl rfl rfl (y_ldw 0 rfl T83 rfl rfl) ?_
        refine hl_i0 rfl rfl (e_stw 0 rfl T83.2 rfl rfl rfl (ns_oneb _ _)) ?_; intro _
        refine hl_y rfl rfl rfl (y_assign (v := vi 0) rfl rfl) ?_
        refine hl_nil ?_
        refine hq_then ?_
        refine hc_ret ?_
        exact hq_scope_ret (hq_ret2 (()) rfl (rv_arr 0 rfl T83 rfl (ns_len _ _).symm) (rv_tmp rfl) (by rw [schF, schFault, if_pos (by omega), if_pos (by omega), ns_full (by omega)]) (fun _ h => Mm.pick h [] (by simp)))

theorem enc_stepT {k s : Nat → UInt8} {r : Nat} (h : r + 1 < 14) : ns vb 16 (addF (mixF (shiftF (subF (encSt k s r)))) (fun i => k (1 * 16 + r * 16 + i))) = ns vb 16 (encSt k s (r + 1)) := by
  rw [encSt, if_pos h]
  exact ns_ext fun i _ => by simp only [addF]; rw [show (1 * 16 + r * 16 + i) = (r + 1) * 16 + i from by omega]
theorem enc_stepF {k s : Nat → UInt8} {r : Nat} (h : ¬ r + 1 < 14) : ns vb 16 (addF (shiftF (subF (encSt k s r))) (fun i => k (1 * 16 + r * 16 + i))) = ns vb 16 (encSt k s (r + 1)) := by
  rw [encSt, if_neg h]
  exact ns_ext fun i _ => by simp only [addF]; rw [show (1 * 16 + r * 16 + i) = (r + 1) * 16 + i from by omega]
theorem aes_Encrypt_ct (k s : Nat → UInt8) (w : World) : Ct0 Tryd.prog 93 #[.agg (ns vb 240 (k)).toArray, .agg (ns vb 16 s).toArray] w (.agg (ns vb 16 (encF k s)).toArray) := by
  refine ct0_of Tryd.func93 rfl Tryd.ntmps93 rfl ?_
  refine hc_seq ?_
  refine hc_region ?_
  refine hl_i rfl rfl rfl (e_boxa rfl rfl) ?_; intro g2
  refine hl_i rfl rfl rfl (e_boxa rfl rfl) ?_; intro g3
  refine hl_i rfl rfl rfl (e_alloc rfl Z81) ?_; intro g4
  refine hl_nil ?_
  refine hq_then ?_
  refine hc_seq ?_
  refine hc_region ?_
  refine hl_y rfl rfl rfl (y_ldw 1 rfl T81 rfl rfl) ?_
  refine hl_y rfl rfl rfl (y_ixaz (k := 0) rfl T83 T81 rfl rfl (by omega)) ?_
  refine hl_y rfl rfl rfl (y_ldp 2 rfl T81 rfl rfl (by omega)) ?_
  refine hl_i rfl rfl rfl (e_call0 rfl F102 rfl (fun w hw => aes_Add_ct _ _ w) rfl) ?_; intro _
  refine hl_i0 rfl rfl (e_stw 1 rfl T81.2 rfl rfl rfl (ns_oneb _ _)) ?_; intro _
  refine hl_nil ?_
  refine hq_then ?_
  refine hc_seq ?_
  refine hc_region ?_
  refine hl_y rfl rfl rfl (y_assign rfl rfl) ?_
  refine hl_nil ?_
  refine hq_then ?_
  refine hc_seq ?_
  refine hc_seq ?_
  refine hc_region ?_
  refine hl_y rfl rfl rfl (y_slcz (lo := 1) rfl T83 T81.2 rfl rfl (by omega)) ?_
  refine hl_y rfl rfl rfl (y_lenc rfl rfl SZ98 rfl) ?_
  refine hl_y rfl rfl rfl (y_move (v := vi 0) rfl rfl) ?_
  refine hl_nil ?_
  refine hq_then ?_
  refine hc_block ?_
  refine hc_loop (fun r => r ≤ 14) (fun r => 14 - r) (fun r => [(2, .pointer (some ⟨g2, 0, none⟩)), (3, .pointer (some ⟨g3, 0, none⟩)), (4, .pointer (some ⟨g4, 0, none⟩)), (5, .func (.func 103) #[] #[]), (12, .slice (some ⟨g2, 1 * 16, none⟩) (15 - 1) (15 - 1)), (13, vi ((15 - 1))), (14, vi r)]) (fun r => Mm w [.blk g4 81 (ns vb 16 (fun _ => 0)), .blk g3 81 (ns vb 16 (encSt k s r)), .blk g2 83 (ns vb 240 (k))]) (0) (by omega) ⟨rfl, rfl, rfl, rfl, rfl, lk_int rfl (by omega), lk_int rfl (by omega), trivial⟩ (fun _ h => h) ?_
  intro r hk
  refine hc_seq ?_
  refine hc_region ?_
  refine hl_y rfl rfl rfl (y_lssn rfl rfl rfl ) ?_
  refine hl_nil ?_
  refine hq_then ?_
  refine hc_seq ?_
  refine hc_if rfl (fun c0 => ?_) (fun c0 => ?_)
  · replace c0 := of_decide_eq_true c0
    refine hc_skip ?_
    refine hq_then ?_
    refine hc_seq ?_
    refine hc_block ?_
    refine hc_seq ?_
    refine hc_region ?_
    refine hl_y rfl rfl rfl (y_move rfl rfl) ?_
    refine hl_y rfl rfl rfl (y_ixz rfl SZ98 rfl rfl (by omega)) ?_
    refine hl_y rfl rfl rfl (y_ldp 2 rfl T81 rfl rfl (by omega)) ?_
    refine hl_i rfl rfl rfl (e_alloc rfl Z81) ?_; intro g7
    refine hl_y rfl rfl rfl (y_assign rfl rfl) ?_
    refine hl_i0 rfl rfl (e_stw 0 rfl T81.2 rfl rfl rfl (ns_oneb _ _)) ?_; intro _
    refine hl_nil ?_
    refine hq_then ?_
    refine hc_seq ?_
    refine hc_region ?_
    refine hl_y rfl rfl rfl (y_ldw 2 rfl T81 rfl rfl) ?_
    refine hl_i rfl rfl rfl (e_call0 rfl F105 rfl (fun w hw => aes_Sub_ct _ w) rfl) ?_; intro _
    refine hl_i rfl rfl rfl (e_call0 rfl F104 rfl (fun w hw => aes_Shift_ct _ w) rfl) ?_; intro _
    refine hl_i0 rfl rfl (e_stw 2 rfl T81.2 rfl rfl rfl (ns_oneb _ _)) ?_; intro _
    refine hl_nil ?_
    refine hq_then ?_
    refine hc_seq ?_
    refine hc_seq ?_
    refine hc_region ?_
    refine hl_y rfl rfl rfl (y_move rfl rfl) ?_
    refine hl_y rfl rfl rfl (y_addn (q := 1) rfl rfl rfl (by omega)) ?_
    refine hl_y rfl rfl rfl (y_lssn (q := 14) rfl rfl rfl ) ?_
    refine hl_nil ?_
    refine hq_then ?_
    refine hc_if rfl (fun c1 => ?_) (fun c1 => ?_)
    · replace c1 := of_decide_eq_true c1
      refine hc_region ?_
      refine hl_y rfl rfl rfl (y_move rfl rfl) ?_
      refine hl_y rfl rfl rfl (y_ldw 2 rfl T81 rfl rfl) ?_
      refine hl_i rfl rfl rfl (e_call0 rfl F103 rfl (fun w hw => aes_Mix_ct _ w) rfl) ?_; intro _
      refine hl_i0 rfl rfl (e_stw 2 rfl T81.2 rfl rfl rfl (ns_oneb _ _)) ?_; intro _
      refine hl_nil ?_
      refine hq_then ?_
      refine hc_region ?_
      refine hl_y rfl rfl rfl (y_ldw 2 rfl T81 rfl rfl) ?_
      refine hl_y rfl rfl rfl (y_ldw 0 rfl T81 rfl rfl) ?_
      refine hl_i rfl rfl rfl (e_call0 rfl F102 rfl (fun w hw => aes_Add_ct _ _ w) rfl) ?_; intro _
      refine hl_i0 rfl rfl (e_stw 2 rfl T81.2 rfl rfl rfl (ns_oneb _ _)) ?_; intro _
      refine hl_nil ?_
      refine hq_in (hq_then ?_)
      refine hc_region ?_
      refine hl_y rfl rfl rfl (y_addn (q := 1) rfl rfl rfl (by omega)) ?_
      refine hl_y rfl rfl rfl (y_move rfl rfl) ?_
      refine hl_nil ?_
      exact hq_round (r + 1) (by omega) (by omega) ⟨rfl, rfl, rfl, rfl, rfl, lk_int rfl (by omega), lk_int rfl (by omega), trivial⟩ (fun _ h => (Mm.pick h [1, 2, 3] (by decide)).set 1 rfl (enc_stepT (by omega)))
    · replace c1 := of_decide_eq_false c1
      refine hc_skip ?_
      refine hq_then ?_
      refine hc_region ?_
      refine hl_y rfl rfl rfl (y_ldw 2 rfl T81 rfl rfl) ?_
      refine hl_y rfl rfl rfl (y_ldw 0 rfl T81 rfl rfl) ?_
      refine hl_i rfl rfl rfl (e_call0 rfl F102 rfl (fun w hw => aes_Add_ct _ _ w) rfl) ?_; intro _
      refine hl_i0 rfl rfl (e_stw 2 rfl T81.2 rfl rfl rfl (ns_oneb _ _)) ?_; intro _
      refine hl_nil ?_
      refine hq_in (hq_then ?_)
      refine hc_region ?_
      refine hl_y rfl rfl rfl (y_addn (q := 1) rfl rfl rfl (by omega)) ?_
      refine hl_y rfl rfl rfl (y_move rfl rfl) ?_
      refine hl_nil ?_
      exact hq_round (r + 1) (by omega) (by omega) ⟨rfl, rfl, rfl, rfl, rfl, lk_int rfl (by omega), lk_int rfl (by omega), trivial⟩ (fun _ h => (Mm.pick h [1, 2, 3] (by decide)).set 1 rfl (enc_stepF (by omega)))
  · replace c0 := of_decide_eq_false c0
    refine hc_exit ?_
    refine hq_then_exit (hq_loop_exit (hq_in_same (hq_then ?_)))
    refine hc_seq ?_
    refine hc_region ?_
    refine hl_y rfl rfl rfl (y_ldw 1 rfl T81 rfl rfl) ?_
    refine hl_i0 rfl rfl (e_stw 0 rfl T81.2 rfl rfl rfl (ns_oneb _ _)) ?_; intro _
    refine hl_nil ?_
    refine hq_then ?_
    refine hc_ret ?_
    exact hq_ret1 (()) rfl (rv_arr 0 rfl T81 rfl (ns_len _ _).symm) (by rw [encF, show r = 14 from by omega]) (fun _ h => Mm.pick h [] (by simp))

end Go.Proofs.YtcdidapkpfnphaaDoor
