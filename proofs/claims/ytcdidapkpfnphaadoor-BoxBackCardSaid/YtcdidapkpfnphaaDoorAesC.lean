/- The schedule of keys and the rounds of the cipher, by the document: what each call gives back. -/
import Derived.Test.YtcdidapkpfnphaaDoorAesB
namespace Go.Proofs.YtcdidapkpfnphaaDoor
open Go.RowKit
set_option linter.unusedVariables false
set_option linter.unusedSimpArgs false
set_option maxRecDepth 100000
theorem turn_TR {x : Nat → UInt8} {i k j : Nat} (h : i % 8 = 0) (hj : j < 4) (hk : 4 ≤ k) : upd (fun j => if j < k then boxR (rotF x j) else rotF x j) 0 ((if 0 < k then boxR (rotF x 0) else rotF x 0) ^^^ powN 2 (redN (i / 8 - 1))) j = turnR x i j := by
  simp only [upd, turnR, turnW, if_pos h]
  by_cases hj0 : j = 0
  · subst hj0
    rw [if_pos rfl, if_pos rfl, if_pos (by omega)]
  · rw [if_neg hj0, if_neg hj0, if_pos (by omega)]
theorem turn_FR {x : Nat → UInt8} {i k j : Nat} (h : ¬ i % 8 = 0) (hj : j < k) : (if j < k then (if i % 4 = 0 then boxR (x j) else x j) else x j) = turnR x i j := by
  simp only [turnR, turnW, if_neg h, if_pos hj]
theorem ns_skip {α : Type} {v : α → Value} {n k : Nat} {f g : Nat → α} (h : f k = g k) : ns v n (fun i => if i < k then f i else g i) = ns v n (fun i => if i < k + 1 then f i else g i) := by
  apply ns_ext
  intro i _
  by_cases h1 : i < k
  · rw [if_pos h1, if_pos (by omega)]
  · by_cases h2 : i = k
    · subst h2; rw [if_neg h1, if_pos (by omega), h]
    · rw [if_neg h1, if_neg (by omega)]
theorem enc_stepTR {k s : Nat → UInt8} {r : Nat} (h : r + 1 < 14) : ns vb 16 (addF (mixR (shiftR (subR (encStR k s r)))) (fun i => k ((r + 1) * 16 + i))) = ns vb 16 (encStR k s (r + 1)) := by
  simp only [encStR, if_pos h]
theorem enc_stepFR {k s : Nat → UInt8} {r : Nat} (h : ¬ r + 1 < 14) : ns vb 16 (addF (shiftR (subR (encStR k s r))) (fun i => k ((r + 1) * 16 + i))) = ns vb 16 (encStR k s (r + 1)) := by
  simp only [encStR, if_neg h]
set_option maxHeartbeats 1000000 in
theorem r11_Words_ct (l : List UInt8) (v : Value) (w : World) (hv : Rd w v (ls vb l)) (hl : l.length = 32) : Ct0 Tryd.prog 106 #[v] w (.agg (ns vb 240 (wGen turnR (keyF l) 60)).toArray) := by
  refine ct0_of Tryd.func106 rfl Tryd.ntmps106 rfl ?_
  refine hc_seq ?_
  refine hc_region ?_
  refine hl_i rfl rfl rfl (e_alloc rfl Z100) ?_; intro g2
  refine hl_nil ?_
  refine hq_then ?_
  refine hc_seq ?_
  refine hc_region ?_
  refine hl_i rfl rfl rfl (e_alloc rfl Z100) ?_; intro g3
  refine hl_nil ?_
  refine hq_then ?_
  refine hc_seq ?_
  refine hc_seq ?_
  refine hc_region ?_
  refine hl_y rfl rfl rfl (y_assign (v := vi 0) rfl rfl) ?_
  refine hl_nil ?_
  refine hq_then ?_
  refine hc_block ?_
  refine hc_loop (fun i => i ≤ 60) (fun i => 60 - i) (fun i => [(2, .pointer (some ⟨g2, 0, none⟩)), (3, .pointer (some ⟨g3, 0, none⟩)), (0, v), (4, vi i)]) (fun i => Mm w [.blk g3 100 (ns vb 240 (wGen turnR (keyF l) i)), .blk g2 100 (ns vb 240 (fun _ => 0))]) (0) (by omega) ⟨rfl, rfl, rfl, lk_int rfl (by omega), trivial⟩ (fun _ h => h) ?_
  intro i hi
  refine hc_seq ?_
  refine hc_seq ?_
  refine hc_region ?_
  refine hl_y rfl rfl rfl (y_move rfl rfl) ?_
  refine hl_y rfl rfl rfl (y_lssn (q := 60) rfl rfl rfl ) ?_
  refine hl_nil ?_
  refine hq_then ?_
  refine hc_if rfl (fun c0 => ?_) (fun c0 => ?_)
  · replace c0 := of_decide_eq_true c0
    refine hc_skip ?_
    refine hq_then ?_
    refine hc_seq ?_
    refine hc_block ?_
    refine hc_seq ?_
    refine hc_seq ?_
    refine hc_region ?_
    refine hl_y rfl rfl rfl (y_move rfl rfl) ?_
    refine hl_y rfl rfl rfl (y_lssn (q := 8) rfl rfl rfl ) ?_
    refine hl_nil ?_
    refine hq_then ?_
    refine hc_if rfl (fun c1 => ?_) (fun c1 => ?_)
    · replace c1 := of_decide_eq_true c1
      refine hc_seq ?_
      refine hc_drawP [] follows_mixed ?_
      refine hh_y 0 rfl rfl rfl rfl (by kernel_rfl) (by kernel_rfl) (by kernel_rfl) (fun _ h => Mm.pick h [] (by decide)) (y_move rfl rfl) ?_
      refine hh_y 1 rfl rfl rfl rfl (by kernel_rfl) (by kernel_rfl) (by kernel_rfl) (fun _ h => Mm.pick h [] (by decide)) (y_move rfl rfl) ?_
      refine hh_y 2 rfl rfl rfl rfl (by kernel_rfl) (by kernel_rfl) (by kernel_rfl) (fun _ h => Mm.pick h [] (by decide)) (y_move rfl rfl) ?_
      refine hh_y 3 rfl rfl rfl rfl (by kernel_rfl) (by kernel_rfl) (by kernel_rfl) (fun _ h => Mm.pick h [] (by decide)) (y_muln (p := 4) rfl rfl rfl (by omega)) ?_
      refine hh_y 4 rfl rfl rfl rfl (by kernel_rfl) (by kernel_rfl) (by kernel_rfl) (fun _ h => Mm.pick h [] (by decide)) (y_ixs rfl S22 rfl (rdF hv) rfl (by first | omega | (simp only [ls_len, ns_len]; omega) | (simp only [List.length_take, List.length_drop, ls_len, ns_len]; omega))) ?_
      refine hh_y 5 rfl rfl rfl rfl (by kernel_rfl) (by kernel_rfl) (by kernel_rfl) (fun _ h => Mm.pick h [] (by decide)) (y_ldb rfl O5 rfl (rdF hv) (by omega)) ?_
      refine hh_y 6 rfl rfl rfl rfl (by kernel_rfl) (by kernel_rfl) (by kernel_rfl) (fun _ h => Mm.pick h [] (by decide)) (y_move rfl rfl) ?_
      refine hh_y 7 rfl rfl rfl rfl (by kernel_rfl) (by kernel_rfl) (by kernel_rfl) (fun _ h => Mm.pick h [] (by decide)) (y_move rfl rfl) ?_
      refine hh_y 8 rfl rfl rfl rfl (by kernel_rfl) (by kernel_rfl) (by kernel_rfl) (fun _ h => Mm.pick h [] (by decide)) (y_muln (p := 4) rfl rfl rfl (by omega)) ?_
      refine hh_y 9 rfl rfl rfl rfl (by kernel_rfl) (by kernel_rfl) (by kernel_rfl) (fun _ h => Mm.pick h [] (by decide)) (y_addn (q := 1) rfl rfl rfl (by omega)) ?_
      refine hh_y 10 rfl rfl rfl rfl (by kernel_rfl) (by kernel_rfl) (by kernel_rfl) (fun _ h => Mm.pick h [] (by decide)) (y_ixs rfl S22 rfl (rdF hv) rfl (by first | omega | (simp only [ls_len, ns_len]; omega) | (simp only [List.length_take, List.length_drop, ls_len, ns_len]; omega))) ?_
      refine hh_y 11 rfl rfl rfl rfl (by kernel_rfl) (by kernel_rfl) (by kernel_rfl) (fun _ h => Mm.pick h [] (by decide)) (y_ldb rfl O5 rfl (rdF hv) (by omega)) ?_
      refine hh_y 12 rfl rfl rfl rfl (by kernel_rfl) (by kernel_rfl) (by kernel_rfl) (fun _ h => Mm.pick h [] (by decide)) (y_move rfl rfl) ?_
      refine hh_y 13 rfl rfl rfl rfl (by kernel_rfl) (by kernel_rfl) (by kernel_rfl) (fun _ h => Mm.pick h [] (by decide)) (y_move rfl rfl) ?_
      refine hh_y 14 rfl rfl rfl rfl (by kernel_rfl) (by kernel_rfl) (by kernel_rfl) (fun _ h => Mm.pick h [] (by decide)) (y_muln (p := 4) rfl rfl rfl (by omega)) ?_
      refine hh_y 15 rfl rfl rfl rfl (by kernel_rfl) (by kernel_rfl) (by kernel_rfl) (fun _ h => Mm.pick h [] (by decide)) (y_addn (q := 2) rfl rfl rfl (by omega)) ?_
      refine hh_y 16 rfl rfl rfl rfl (by kernel_rfl) (by kernel_rfl) (by kernel_rfl) (fun _ h => Mm.pick h [] (by decide)) (y_ixs rfl S22 rfl (rdF hv) rfl (by first | omega | (simp only [ls_len, ns_len]; omega) | (simp only [List.length_take, List.length_drop, ls_len, ns_len]; omega))) ?_
      refine hh_y 17 rfl rfl rfl rfl (by kernel_rfl) (by kernel_rfl) (by kernel_rfl) (fun _ h => Mm.pick h [] (by decide)) (y_ldb rfl O5 rfl (rdF hv) (by omega)) ?_
      refine hh_y 18 rfl rfl rfl rfl (by kernel_rfl) (by kernel_rfl) (by kernel_rfl) (fun _ h => Mm.pick h [] (by decide)) (y_move rfl rfl) ?_
      refine hh_y 19 rfl rfl rfl rfl (by kernel_rfl) (by kernel_rfl) (by kernel_rfl) (fun _ h => Mm.pick h [] (by decide)) (y_move rfl rfl) ?_
      refine hh_y 20 rfl rfl rfl rfl (by kernel_rfl) (by kernel_rfl) (by kernel_rfl) (fun _ h => Mm.pick h [] (by decide)) (y_muln (p := 4) rfl rfl rfl (by omega)) ?_
      refine hh_y 21 rfl rfl rfl rfl (by kernel_rfl) (by kernel_rfl) (by kernel_rfl) (fun _ h => Mm.pick h [] (by decide)) (y_addn (q := 3) rfl rfl rfl (by omega)) ?_
      refine hh_y 22 rfl rfl rfl rfl (by kernel_rfl) (by kernel_rfl) (by kernel_rfl) (fun _ h => Mm.pick h [] (by decide)) (y_ixs rfl S22 rfl (rdF hv) rfl (by first | omega | (simp only [ls_len, ns_len]; omega) | (simp only [List.length_take, List.length_drop, ls_len, ns_len]; omega))) ?_
      refine hh_y 23 rfl rfl rfl rfl (by kernel_rfl) (by kernel_rfl) (by kernel_rfl) (fun _ h => Mm.pick h [] (by decide)) (y_ldb rfl O5 rfl (rdF hv) (by omega)) ?_
      refine hh_y 24 rfl rfl rfl rfl (by kernel_rfl) (by kernel_rfl) (by kernel_rfl) (fun _ h => Mm.pick h [] (by decide)) (y_bu4 (fun j => l.getD (4 * i + j) 0) rfl T99 O5 Z99 rfl rfl rfl rfl) ?_
      refine hh_y 25 rfl rfl rfl rfl (by kernel_rfl) (by kernel_rfl) (by kernel_rfl) (fun _ h => Mm.pick h [] (by decide)) (y_ixaz rfl T100 T99 rfl rfl (by omega)) ?_
      refine hh_i0 26 rfl rfl rfl (by kernel_rfl) (e_stp 0 rfl T99.2 rfl rfl rfl (ns_oneb _ _) (by omega)) (fun _ _ h => Mm.pick_set h [] (by decide) (by decide)) ?_; intro _
      refine hh_done (by kernel_rfl) ?_
      refine hq_then ?_
      refine hc_exit ?_
      refine hq_then_exit (hq_in_same (hq_then ?_))
      refine hc_region ?_
      refine hl_y rfl rfl rfl (y_move rfl rfl) ?_
      refine hl_y rfl rfl rfl (y_addn (q := 1) rfl rfl rfl (by omega)) ?_
      refine hl_y rfl rfl rfl (y_assign rfl rfl) ?_
      refine hl_nil ?_
      exact hq_round (i + 1) (by omega) (by omega) ⟨rfl, rfl, rfl, lk_int rfl (by omega), trivial⟩ (fun _ h => Mm.set h 0 rfl (wg_key (by omega)))
    · replace c1 := of_decide_eq_false c1
      refine hc_skip ?_
      refine hq_then ?_
      refine hc_seq ?_
      refine hc_region ?_
      refine hl_y rfl rfl rfl (y_move rfl rfl) ?_
      refine hl_y rfl rfl rfl (y_subn (q := 1) rfl rfl rfl (by omega) (by omega)) ?_
      refine hl_y rfl rfl rfl (y_ixaz rfl T100 T99 rfl rfl (by omega)) ?_
      refine hl_y rfl rfl rfl (y_ldp 0 rfl T99 rfl rfl (by omega)) ?_
      refine hl_i rfl rfl rfl (e_alloc rfl Z99) ?_; intro g5
      refine hl_i0 rfl rfl (e_stw 0 rfl T99.2 rfl rfl rfl (ns_oneb _ _)) ?_; intro _
      refine hl_nil ?_
      refine hq_then ?_
      refine hc_seq ?_
      refine hc_seq ?_
      refine hc_region ?_
      refine hl_y rfl rfl rfl (y_move rfl rfl) ?_
      refine hl_y rfl rfl rfl (y_remn (q := 8) rfl rfl rfl (by omega)) ?_
      refine hl_y rfl rfl rfl (y_eqln (q := 0) rfl rfl rfl ) ?_
      refine hl_nil ?_
      refine hq_then ?_
      refine hc_if rfl (fun c2 => ?_) (fun c2 => ?_)
      · replace c2 := of_decide_eq_true c2
        refine hc_region ?_
        refine hl_y rfl rfl rfl (y_ixa1 (k := 1) rfl T99 O5 rfl rfl (by omega)) ?_
        refine hl_y rfl rfl rfl (y_ldn 0 rfl O5 rfl rfl (by omega)) ?_
        refine hl_y rfl rfl rfl (y_ixa1 (k := 2) rfl T99 O5 rfl rfl (by omega)) ?_
        refine hl_y rfl rfl rfl (y_ldn 0 rfl O5 rfl rfl (by omega)) ?_
        refine hl_y rfl rfl rfl (y_ixa1 (k := 3) rfl T99 O5 rfl rfl (by omega)) ?_
        refine hl_y rfl rfl rfl (y_ldn 0 rfl O5 rfl rfl (by omega)) ?_
        refine hl_y rfl rfl rfl (y_ixa1 (k := 0) rfl T99 O5 rfl rfl (by omega)) ?_
        refine hl_y rfl rfl rfl (y_ldn 0 rfl O5 rfl rfl (by omega)) ?_
        refine hl_y rfl rfl rfl (y_bu4 (rotF (fun j => wGen turnR (keyF l) i ((i - 1) * 4 + j))) rfl T99 O5 Z99 rfl rfl rfl rfl) ?_
        refine hl_i0 rfl rfl (e_stw 0 rfl T99.2 rfl rfl rfl (ns_oneb _ _)) ?_; intro _
        refine hl_nil ?_
        refine hq_then ?_
        refine hc_seq ?_
        refine hc_seq ?_
        refine hc_region ?_
        refine hl_y rfl rfl rfl (y_assign (v := vi 0) rfl rfl) ?_
        refine hl_nil ?_
        refine hq_then ?_
        refine hc_block ?_
        refine hc_loop (fun k => k ≤ 4) (fun k => 4 - k) (fun k => [(2, .pointer (some ⟨g2, 0, none⟩)), (3, .pointer (some ⟨g3, 0, none⟩)), (0, v), (4, vi i), (5, .pointer (some ⟨g5, 0, none⟩)), (6, vi k)]) (fun k => Mm w [.blk g5 99 (ns vb 4 (fun z => if z < k then (fun j => boxR (rotF (fun j => wGen turnR (keyF l) i ((i - 1) * 4 + j)) j)) z else rotF (fun j => wGen turnR (keyF l) i ((i - 1) * 4 + j)) z)), .blk g3 100 (ns vb 240 (wGen turnR (keyF l) i)), .blk g2 100 (ns vb 240 (fun _ => 0))]) (0) (by omega) ⟨rfl, rfl, rfl, lk_int rfl (by omega), rfl, lk_int rfl (by omega), trivial⟩ (fun _ h => Mm.mm h (by simp; try rfl)) ?_
        intro k hk
        refine hc_seq ?_
        refine hc_seq ?_
        refine hc_region ?_
        refine hl_y rfl rfl rfl (y_move rfl rfl) ?_
        refine hl_y rfl rfl rfl (y_lssn (q := 4) rfl rfl rfl ) ?_
        refine hl_nil ?_
        refine hq_then ?_
        refine hc_if rfl (fun c3 => ?_) (fun c3 => ?_)
        · replace c3 := of_decide_eq_true c3
          refine hc_skip ?_
          refine hq_then ?_
          refine hc_seq ?_
          refine hc_block ?_
          refine hc_seq ?_
          refine hc_region ?_
          refine hl_y rfl rfl rfl (y_move rfl rfl) ?_
          refine hl_y rfl rfl rfl (y_remn (q := 4) rfl rfl rfl (by omega)) ?_
          refine hl_y rfl rfl rfl (y_eqln (q := 0) rfl rfl rfl ) ?_
          refine hl_nil ?_
          refine hq_then ?_
          refine hc_if rfl (fun c4 => ?_) (fun c4 => ?_)
          · replace c4 := of_decide_eq_true c4
            refine hc_region ?_
            refine hl_y rfl rfl rfl (y_move rfl rfl) ?_
            refine hl_y rfl rfl rfl (y_move rfl rfl) ?_
            refine hl_y rfl rfl rfl (y_ixa1 rfl T99 O5 rfl rfl (by omega)) ?_
            refine hl_y rfl rfl rfl (y_ldn 0 rfl O5 rfl rfl (by omega)) ?_
            refine hl_i rfl rfl rfl (e_call0 rfl F116 rfl (fun w hw => r10_Box_ct _ w) rfl) ?_; intro _
            refine hl_y rfl rfl rfl (y_ixa1 rfl T99 O5 rfl rfl (by omega)) ?_
            refine hl_i0 rfl rfl (e_stn 0 rfl O5.2 rfl rfl rfl rfl (by omega)) ?_; intro _
            refine hl_nil ?_
            refine hq_in (hq_then ?_)
            refine hc_region ?_
            refine hl_y rfl rfl rfl (y_move rfl rfl) ?_
            refine hl_y rfl rfl rfl (y_addn (q := 1) rfl rfl rfl (by omega)) ?_
            refine hl_y rfl rfl rfl (y_assign rfl rfl) ?_
            refine hl_nil ?_
            exact hq_round (k + 1) (by omega) (by omega) ⟨rfl, rfl, rfl, lk_int rfl (by omega), rfl, lk_int rfl (by omega), trivial⟩ (fun _ h => Mm.set h 0 rfl (ns_step (f := fun j => boxR (rotF (fun j => wGen turnR (keyF l) i ((i - 1) * 4 + j)) j)) (g := rotF (fun j => wGen turnR (keyF l) i ((i - 1) * 4 + j))) (by simp)))
          · replace c4 := of_decide_eq_false c4
            exfalso; omega
        · replace c3 := of_decide_eq_false c3
          refine hc_exit ?_
          refine hq_then_exit (hq_loop_exit (hq_in_same (hq_then ?_)))
          refine hc_seq ?_
          refine hc_seq ?_
          refine hc_region ?_
          refine hl_y rfl rfl rfl (y_move rfl rfl) ?_
          refine hl_y rfl rfl rfl (y_remn (q := 8) rfl rfl rfl (by omega)) ?_
          refine hl_y rfl rfl rfl (y_eqln (q := 0) rfl rfl rfl ) ?_
          refine hl_nil ?_
          refine hq_then ?_
          refine hc_if rfl (fun c5 => ?_) (fun c5 => ?_)
          · replace c5 := of_decide_eq_true c5
            refine hc_drawP [] follows_mixed ?_
            refine hh_y 0 rfl rfl rfl rfl (by kernel_rfl) (by kernel_rfl) (by kernel_rfl) (fun _ h => Mm.pick h [] (by decide)) (y_ixa1 (k := 0) rfl T99 O5 rfl rfl (by omega)) ?_
            refine hh_y 2 rfl rfl rfl rfl (by kernel_rfl) (by kernel_rfl) (by kernel_rfl) (fun _ h => Mm.pick h [] (by decide)) (y_move rfl rfl) ?_
            refine hh_y 3 rfl rfl rfl rfl (by kernel_rfl) (by kernel_rfl) (by kernel_rfl) (fun _ h => Mm.pick h [] (by decide)) (y_quon (q := 8) rfl rfl rfl (by omega) (by omega)) ?_
            refine hh_y 4 rfl rfl rfl rfl (by kernel_rfl) (by kernel_rfl) (by kernel_rfl) (fun _ h => Mm.pick h [] (by decide)) (y_subn (q := 1) rfl rfl rfl (by omega) (by omega)) ?_
            refine hh_pair 1 5 (.inl (by kernel_rfl)) (by kernel_rfl) (by kernel_rfl) rfl rfl rfl rfl rfl rfl rfl rfl rfl rfl (e_call0 rfl F117 rfl (fun w hw => r10_Power_ct 2 ((i / 8) - 1) _ (by omega) rfl w) rfl) (ef_y (y_as (y_ldn 0 rfl O5 rfl rfl (by omega)) rfl)) (by intro _; exact ef_y (y_as (y_ldn 0 rfl O5 rfl rfl (by omega)) rfl)) (fun _ h => Mm.pick h [] (by decide)) (fun _ _ h => Mm.pick h [] (by decide)) rfl rfl ?_; intro _
            refine hh_y 6 rfl rfl rfl rfl (by kernel_rfl) (by kernel_rfl) (by kernel_rfl) (fun _ h => Mm.pick h [] (by decide)) (y_xorb rfl rfl rfl) ?_
            refine hh_y 7 rfl rfl rfl rfl (by kernel_rfl) (by kernel_rfl) (by kernel_rfl) (fun _ h => Mm.pick h [] (by decide)) (y_ixa1 (k := 0) rfl T99 O5 rfl rfl (by omega)) ?_
            refine hh_i0 8 rfl rfl rfl (by kernel_rfl) (e_stn 0 rfl O5.2 rfl rfl rfl rfl (by omega)) (fun _ _ h => Mm.pick_set h [] (by decide) (by decide)) ?_; intro _
            refine hh_done (by kernel_rfl) ?_
            refine hq_then ?_
            refine hc_seq ?_
            refine hc_region ?_
            refine hl_y rfl rfl rfl (y_assign (v := vi 0) rfl rfl) ?_
            refine hl_nil ?_
            refine hq_then ?_
            refine hc_block ?_
            refine hc_loop (fun n => n ≤ 4) (fun n => 4 - n) (fun n => [(2, .pointer (some ⟨g2, 0, none⟩)), (3, .pointer (some ⟨g3, 0, none⟩)), (0, v), (4, vi i), (5, .pointer (some ⟨g5, 0, none⟩)), (7, vi n)]) (fun n => Mm w [.blk g5 99 (ns vb 4 (turnR (fun j => wGen turnR (keyF l) i ((i - 1) * 4 + j)) i)), .blk g3 100 (ns vb 240 (fun q => if i * 4 ≤ q ∧ q < i * 4 + n then wgN turnR (keyF l) i q else wGen turnR (keyF l) i q)), .blk g2 100 (ns vb 240 (fun _ => 0))]) (0) (by omega) ⟨rfl, rfl, rfl, lk_int rfl (by omega), rfl, lk_int rfl (by omega), trivial⟩ (fun _ h => (Mm.set h 0 rfl (ns_ext fun j hj => turn_TR (by omega) hj (by omega))).set 1 rfl (ns_ext fun q _ => by rw [if_neg (by omega)])) ?_
            intro n hn
            refine hc_seq ?_
            refine hc_seq ?_
            refine hc_region ?_
            refine hl_y rfl rfl rfl (y_move rfl rfl) ?_
            refine hl_y rfl rfl rfl (y_lssn (q := 4) rfl rfl rfl ) ?_
            refine hl_nil ?_
            refine hq_then ?_
            refine hc_if rfl (fun c6 => ?_) (fun c6 => ?_)
            · replace c6 := of_decide_eq_true c6
              refine hc_skip ?_
              refine hq_then ?_
              refine hc_seq ?_
              refine hc_block ?_
              refine hc_drawP [0] follows_mixed ?_
              refine hh_y 0 rfl rfl rfl rfl (by kernel_rfl) (by kernel_rfl) (by kernel_rfl) (fun _ h => Mm.pick h [0] (by decide)) (y_move rfl rfl) ?_
              refine hh_y 1 rfl rfl rfl rfl (by kernel_rfl) (by kernel_rfl) (by kernel_rfl) (fun _ h => Mm.pick h [0] (by decide)) (y_move rfl rfl) ?_
              refine hh_y 2 rfl rfl rfl rfl (by kernel_rfl) (by kernel_rfl) (by kernel_rfl) (fun _ h => Mm.pick h [0] (by decide)) (y_move rfl rfl) ?_
              refine hh_y 3 rfl rfl rfl rfl (by kernel_rfl) (by kernel_rfl) (by kernel_rfl) (fun _ h => Mm.pick h [0] (by decide)) (y_subn (q := 8) rfl rfl rfl (by omega) (by omega)) ?_
              refine hh_y 4 rfl rfl rfl rfl (by kernel_rfl) (by kernel_rfl) (by kernel_rfl) (fun _ h => Mm.pick h [0] (by decide)) (y_move rfl rfl) ?_
              refine hh_y 5 rfl rfl rfl rfl (by kernel_rfl) (by kernel_rfl) (by kernel_rfl) (fun _ h => Mm.pick h [0] (by decide)) (y_ixaz rfl T100 T99 rfl rfl (by omega)) ?_
              refine hh_y 6 rfl rfl rfl rfl (by kernel_rfl) (by kernel_rfl) (by kernel_rfl) (fun _ h => Mm.pick h [0] (by decide)) (y_ixaq rfl T99 O5 rfl rfl (by omega)) ?_
              refine hh_y 8 rfl rfl rfl rfl (by kernel_rfl) (by kernel_rfl) (by kernel_rfl) (fun _ h => Mm.pick h [0] (by decide)) (y_move rfl rfl) ?_
              refine hh_y 9 rfl rfl rfl rfl (by kernel_rfl) (by kernel_rfl) (by kernel_rfl) (fun _ h => Mm.pick h [0] (by decide)) (y_ixa1 rfl T99 O5 rfl rfl (by omega)) ?_
              refine hh_y 10 rfl rfl rfl rfl (by kernel_rfl) (by kernel_rfl) (by kernel_rfl) (fun _ h => Mm.pick h [0] (by decide)) (y_ldn 0 rfl O5 rfl rfl (by omega)) ?_
              refine hh_y 12 rfl rfl rfl rfl (by kernel_rfl) (by kernel_rfl) (by kernel_rfl) (fun _ h => Mm.pick h [0] (by decide)) (y_ixaz rfl T100 T99 rfl rfl (by omega)) ?_
              refine hh_i 7 rfl rfl rfl rfl (by kernel_rfl) (ef_y (y_ldn 1 rfl O5 rfl rfl (by omega))) (fun _ _ h => Mm.pick h [0] (by decide)) ?_; intro _
              refine hh_y 11 rfl rfl rfl rfl (by kernel_rfl) (by kernel_rfl) (by kernel_rfl) (fun _ h => Mm.pick h [0] (by decide)) (y_xorb rfl rfl rfl) ?_
              refine hh_y 13 rfl rfl rfl rfl (by kernel_rfl) (by kernel_rfl) (by kernel_rfl) (fun _ h => Mm.pick h [0] (by decide)) (y_ixaq rfl T99 O5 rfl rfl (by omega)) ?_
              refine hh_i0 14 rfl rfl rfl (by kernel_rfl) (e_stn 1 rfl O5.2 rfl rfl rfl rfl (by omega)) (fun _ _ h => Mm.pick_set h [0] (by decide) (by decide)) ?_; intro _
              refine hh_done (by kernel_rfl) ?_
              refine hq_in (hq_then ?_)
              refine hc_region ?_
              refine hl_y rfl rfl rfl (y_move rfl rfl) ?_
              refine hl_y rfl rfl rfl (y_addn (q := 1) rfl rfl rfl (by omega)) ?_
              refine hl_y rfl rfl rfl (y_assign rfl rfl) ?_
              refine hl_nil ?_
              exact hq_round (n + 1) (by omega) (by omega) ⟨rfl, rfl, rfl, lk_int rfl (by omega), rfl, lk_int rfl (by omega), trivial⟩ (fun _ h => Mm.set h 1 rfl (ns_step2 (f := wgN turnR (keyF l) i) (g := wGen turnR (keyF l) i) (by rw [if_neg (by omega)]; exact wg_x)))
            · replace c6 := of_decide_eq_false c6
              refine hc_exit ?_
              refine hq_then_exit (hq_loop_exit (hq_in_same (hq_in (hq_then ?_))))
              refine hc_region ?_
              refine hl_y rfl rfl rfl (y_move rfl rfl) ?_
              refine hl_y rfl rfl rfl (y_addn (q := 1) rfl rfl rfl (by omega)) ?_
              refine hl_y rfl rfl rfl (y_assign rfl rfl) ?_
              refine hl_nil ?_
              exact hq_round (i + 1) (by omega) (by omega) ⟨rfl, rfl, rfl, lk_int rfl (by omega), trivial⟩ (fun _ h => (Mm.pick h [1, 2] (by decide)).set 0 rfl (wg_turn (by omega) (by omega)))
          · replace c5 := of_decide_eq_false c5
            exfalso; omega
      · replace c2 := of_decide_eq_false c2
        refine hc_skip ?_
        refine hq_then ?_
        refine hc_seq ?_
        refine hc_seq ?_
        refine hc_region ?_
        refine hl_y rfl rfl rfl (y_assign (v := vi 0) rfl rfl) ?_
        refine hl_nil ?_
        refine hq_then ?_
        refine hc_block ?_
        refine hc_loop (fun k => k ≤ 4) (fun k => 4 - k) (fun k => [(2, .pointer (some ⟨g2, 0, none⟩)), (3, .pointer (some ⟨g3, 0, none⟩)), (0, v), (4, vi i), (5, .pointer (some ⟨g5, 0, none⟩)), (6, vi k)]) (fun k => Mm w [.blk g5 99 (ns vb 4 (fun z => if z < k then (fun j => if i % 4 = 0 then boxR ((fun j => wGen turnR (keyF l) i ((i - 1) * 4 + j)) j) else (fun j => wGen turnR (keyF l) i ((i - 1) * 4 + j)) j) z else (fun j => wGen turnR (keyF l) i ((i - 1) * 4 + j)) z)), .blk g3 100 (ns vb 240 (wGen turnR (keyF l) i)), .blk g2 100 (ns vb 240 (fun _ => 0))]) (0) (by omega) ⟨rfl, rfl, rfl, lk_int rfl (by omega), rfl, lk_int rfl (by omega), trivial⟩ (fun _ h => Mm.set h 0 rfl (ns_ext fun j _ => by rw [if_neg (by omega)])) ?_
        intro k hk
        refine hc_seq ?_
        refine hc_seq ?_
        refine hc_region ?_
        refine hl_y rfl rfl rfl (y_move rfl rfl) ?_
        refine hl_y rfl rfl rfl (y_lssn (q := 4) rfl rfl rfl ) ?_
        refine hl_nil ?_
        refine hq_then ?_
        refine hc_if rfl (fun c7 => ?_) (fun c7 => ?_)
        · replace c7 := of_decide_eq_true c7
          refine hc_skip ?_
          refine hq_then ?_
          refine hc_seq ?_
          refine hc_block ?_
          refine hc_seq ?_
          refine hc_region ?_
          refine hl_y rfl rfl rfl (y_move rfl rfl) ?_
          refine hl_y rfl rfl rfl (y_remn (q := 4) rfl rfl rfl (by omega)) ?_
          refine hl_y rfl rfl rfl (y_eqln (q := 0) rfl rfl rfl ) ?_
          refine hl_nil ?_
          refine hq_then ?_
          refine hc_if rfl (fun c8 => ?_) (fun c8 => ?_)
          · replace c8 := of_decide_eq_true c8
            refine hc_region ?_
            refine hl_y rfl rfl rfl (y_move rfl rfl) ?_
            refine hl_y rfl rfl rfl (y_move rfl rfl) ?_
            refine hl_y rfl rfl rfl (y_ixa1 rfl T99 O5 rfl rfl (by omega)) ?_
            refine hl_y rfl rfl rfl (y_ldn 0 rfl O5 rfl rfl (by omega)) ?_
            refine hl_i rfl rfl rfl (e_call0 rfl F116 rfl (fun w hw => r10_Box_ct _ w) rfl) ?_; intro _
            refine hl_y rfl rfl rfl (y_ixa1 rfl T99 O5 rfl rfl (by omega)) ?_
            refine hl_i0 rfl rfl (e_stn 0 rfl O5.2 rfl rfl rfl rfl (by omega)) ?_; intro _
            refine hl_nil ?_
            refine hq_in (hq_then ?_)
            refine hc_region ?_
            refine hl_y rfl rfl rfl (y_move rfl rfl) ?_
            refine hl_y rfl rfl rfl (y_addn (q := 1) rfl rfl rfl (by omega)) ?_
            refine hl_y rfl rfl rfl (y_assign rfl rfl) ?_
            refine hl_nil ?_
            exact hq_round (k + 1) (by omega) (by omega) ⟨rfl, rfl, rfl, lk_int rfl (by omega), rfl, lk_int rfl (by omega), trivial⟩ (fun _ h => Mm.set h 0 rfl (ns_step (f := (fun j => if i % 4 = 0 then boxR ((fun j => wGen turnR (keyF l) i ((i - 1) * 4 + j)) j) else (fun j => wGen turnR (keyF l) i ((i - 1) * 4 + j)) j)) (g := (fun j => wGen turnR (keyF l) i ((i - 1) * 4 + j))) (by rw [if_neg (by omega), if_pos (by omega)])))
          · replace c8 := of_decide_eq_false c8
            refine hc_skip ?_
            refine hq_in (hq_then ?_)
            refine hc_region ?_
            refine hl_y rfl rfl rfl (y_move rfl rfl) ?_
            refine hl_y rfl rfl rfl (y_addn (q := 1) rfl rfl rfl (by omega)) ?_
            refine hl_y rfl rfl rfl (y_assign rfl rfl) ?_
            refine hl_nil ?_
            exact hq_round (k + 1) (by omega) (by omega) ⟨rfl, rfl, rfl, lk_int rfl (by omega), rfl, lk_int rfl (by omega), trivial⟩ (fun _ h => Mm.set h 0 rfl (ns_skip (f := (fun j => if i % 4 = 0 then boxR ((fun j => wGen turnR (keyF l) i ((i - 1) * 4 + j)) j) else (fun j => wGen turnR (keyF l) i ((i - 1) * 4 + j)) j)) (g := (fun j => wGen turnR (keyF l) i ((i - 1) * 4 + j))) (if_neg (by omega))))
        · replace c7 := of_decide_eq_false c7
          refine hc_exit ?_
          refine hq_then_exit (hq_loop_exit (hq_in_same (hq_then ?_)))
          refine hc_seq ?_
          refine hc_seq ?_
          refine hc_region ?_
          refine hl_y rfl rfl rfl (y_move rfl rfl) ?_
          refine hl_y rfl rfl rfl (y_remn (q := 8) rfl rfl rfl (by omega)) ?_
          refine hl_y rfl rfl rfl (y_eqln (q := 0) rfl rfl rfl ) ?_
          refine hl_nil ?_
          refine hq_then ?_
          refine hc_if rfl (fun c9 => ?_) (fun c9 => ?_)
          · replace c9 := of_decide_eq_true c9
            exfalso; omega
          · replace c9 := of_decide_eq_false c9
            refine hc_skip ?_
            refine hq_then ?_
            refine hc_seq ?_
            refine hc_region ?_
            refine hl_y rfl rfl rfl (y_assign (v := vi 0) rfl rfl) ?_
            refine hl_nil ?_
            refine hq_then ?_
            refine hc_block ?_
            refine hc_loop (fun n => n ≤ 4) (fun n => 4 - n) (fun n => [(2, .pointer (some ⟨g2, 0, none⟩)), (3, .pointer (some ⟨g3, 0, none⟩)), (0, v), (4, vi i), (5, .pointer (some ⟨g5, 0, none⟩)), (7, vi n)]) (fun n => Mm w [.blk g5 99 (ns vb 4 (turnR (fun j => wGen turnR (keyF l) i ((i - 1) * 4 + j)) i)), .blk g3 100 (ns vb 240 (fun q => if i * 4 ≤ q ∧ q < i * 4 + n then wgN turnR (keyF l) i q else wGen turnR (keyF l) i q)), .blk g2 100 (ns vb 240 (fun _ => 0))]) (0) (by omega) ⟨rfl, rfl, rfl, lk_int rfl (by omega), rfl, lk_int rfl (by omega), trivial⟩ (fun _ h => (Mm.set h 0 rfl (ns_ext fun j hj => turn_FR (x := (fun j => wGen turnR (keyF l) i ((i - 1) * 4 + j))) (i := i) (k := k) (j := j) (by omega) (by omega))).set 1 rfl (ns_ext fun q _ => by rw [if_neg (by omega)])) ?_
            intro n hn
            refine hc_seq ?_
            refine hc_seq ?_
            refine hc_region ?_
            refine hl_y rfl rfl rfl (y_move rfl rfl) ?_
            refine hl_y rfl rfl rfl (y_lssn (q := 4) rfl rfl rfl ) ?_
            refine hl_nil ?_
            refine hq_then ?_
            refine hc_if rfl (fun c10 => ?_) (fun c10 => ?_)
            · replace c10 := of_decide_eq_true c10
              refine hc_skip ?_
              refine hq_then ?_
              refine hc_seq ?_
              refine hc_block ?_
              refine hc_drawP [0] follows_mixed ?_
              refine hh_y 0 rfl rfl rfl rfl (by kernel_rfl) (by kernel_rfl) (by kernel_rfl) (fun _ h => Mm.pick h [0] (by decide)) (y_move rfl rfl) ?_
              refine hh_y 1 rfl rfl rfl rfl (by kernel_rfl) (by kernel_rfl) (by kernel_rfl) (fun _ h => Mm.pick h [0] (by decide)) (y_move rfl rfl) ?_
              refine hh_y 2 rfl rfl rfl rfl (by kernel_rfl) (by kernel_rfl) (by kernel_rfl) (fun _ h => Mm.pick h [0] (by decide)) (y_move rfl rfl) ?_
              refine hh_y 3 rfl rfl rfl rfl (by kernel_rfl) (by kernel_rfl) (by kernel_rfl) (fun _ h => Mm.pick h [0] (by decide)) (y_subn (q := 8) rfl rfl rfl (by omega) (by omega)) ?_
              refine hh_y 4 rfl rfl rfl rfl (by kernel_rfl) (by kernel_rfl) (by kernel_rfl) (fun _ h => Mm.pick h [0] (by decide)) (y_move rfl rfl) ?_
              refine hh_y 5 rfl rfl rfl rfl (by kernel_rfl) (by kernel_rfl) (by kernel_rfl) (fun _ h => Mm.pick h [0] (by decide)) (y_ixaz rfl T100 T99 rfl rfl (by omega)) ?_
              refine hh_y 6 rfl rfl rfl rfl (by kernel_rfl) (by kernel_rfl) (by kernel_rfl) (fun _ h => Mm.pick h [0] (by decide)) (y_ixaq rfl T99 O5 rfl rfl (by omega)) ?_
              refine hh_y 8 rfl rfl rfl rfl (by kernel_rfl) (by kernel_rfl) (by kernel_rfl) (fun _ h => Mm.pick h [0] (by decide)) (y_move rfl rfl) ?_
              refine hh_y 9 rfl rfl rfl rfl (by kernel_rfl) (by kernel_rfl) (by kernel_rfl) (fun _ h => Mm.pick h [0] (by decide)) (y_ixa1 rfl T99 O5 rfl rfl (by omega)) ?_
              refine hh_y 10 rfl rfl rfl rfl (by kernel_rfl) (by kernel_rfl) (by kernel_rfl) (fun _ h => Mm.pick h [0] (by decide)) (y_ldn 0 rfl O5 rfl rfl (by omega)) ?_
              refine hh_y 12 rfl rfl rfl rfl (by kernel_rfl) (by kernel_rfl) (by kernel_rfl) (fun _ h => Mm.pick h [0] (by decide)) (y_ixaz rfl T100 T99 rfl rfl (by omega)) ?_
              refine hh_i 7 rfl rfl rfl rfl (by kernel_rfl) (ef_y (y_ldn 1 rfl O5 rfl rfl (by omega))) (fun _ _ h => Mm.pick h [0] (by decide)) ?_; intro _
              refine hh_y 11 rfl rfl rfl rfl (by kernel_rfl) (by kernel_rfl) (by kernel_rfl) (fun _ h => Mm.pick h [0] (by decide)) (y_xorb rfl rfl rfl) ?_
              refine hh_y 13 rfl rfl rfl rfl (by kernel_rfl) (by kernel_rfl) (by kernel_rfl) (fun _ h => Mm.pick h [0] (by decide)) (y_ixaq rfl T99 O5 rfl rfl (by omega)) ?_
              refine hh_i0 14 rfl rfl rfl (by kernel_rfl) (e_stn 1 rfl O5.2 rfl rfl rfl rfl (by omega)) (fun _ _ h => Mm.pick_set h [0] (by decide) (by decide)) ?_; intro _
              refine hh_done (by kernel_rfl) ?_
              refine hq_in (hq_then ?_)
              refine hc_region ?_
              refine hl_y rfl rfl rfl (y_move rfl rfl) ?_
              refine hl_y rfl rfl rfl (y_addn (q := 1) rfl rfl rfl (by omega)) ?_
              refine hl_y rfl rfl rfl (y_assign rfl rfl) ?_
              refine hl_nil ?_
              exact hq_round (n + 1) (by omega) (by omega) ⟨rfl, rfl, rfl, lk_int rfl (by omega), rfl, lk_int rfl (by omega), trivial⟩ (fun _ h => Mm.set h 1 rfl (ns_step2 (f := wgN turnR (keyF l) i) (g := wGen turnR (keyF l) i) (by rw [if_neg (by omega)]; exact wg_x)))
            · replace c10 := of_decide_eq_false c10
              refine hc_exit ?_
              refine hq_then_exit (hq_loop_exit (hq_in_same (hq_in (hq_then ?_))))
              refine hc_region ?_
              refine hl_y rfl rfl rfl (y_move rfl rfl) ?_
              refine hl_y rfl rfl rfl (y_addn (q := 1) rfl rfl rfl (by omega)) ?_
              refine hl_y rfl rfl rfl (y_assign rfl rfl) ?_
              refine hl_nil ?_
              exact hq_round (i + 1) (by omega) (by omega) ⟨rfl, rfl, rfl, lk_int rfl (by omega), trivial⟩ (fun _ h => (Mm.pick h [1, 2] (by decide)).set 0 rfl (wg_turn (by omega) (by omega)))
  · replace c0 := of_decide_eq_false c0
    refine hc_exit ?_
    refine hq_then_exit (hq_loop_exit (hq_in_same (hq_then ?_)))
    refine hc_seq ?_
    refine hc_region ?_
    refine hl_y rfl rfl rfl (y_ldw 0 rfl T100 rfl rfl) ?_
    refine hl_i0 rfl rfl (e_stw 1 rfl T100.2 rfl rfl rfl (ns_oneb _ _)) ?_; intro _
    refine hl_nil ?_
    refine hq_then ?_
    refine hc_ret ?_
    exact hq_ret1 (()) rfl (rv_arr 1 rfl T100 rfl (ns_len _ _).symm) (by rw [show i = 60 from by omega]) (fun _ h => Mm.pick h [] (by simp))

theorem r11_Schedule_ct (l : List UInt8) (v : Value) (w : World) (hv : Rd w v (ls vb l)) : Ct0 Tryd.prog 96 #[v] w (.tuple #[.agg (ns vb 240 (schR l)).toArray, vi (schFault l)]) := by
  refine ct0_of Tryd.func96 rfl Tryd.ntmps96 rfl ?_
  refine hc_seq ?_
  refine hc_region ?_
  refine hl_i rfl rfl rfl (e_alloc rfl Z82) ?_; intro g2
  refine hl_y rfl rfl rfl (y_assign (v := vi 0) rfl rfl) ?_
  refine hl_nil ?_
  refine hq_then ?_
  refine hc_seq ?_
  refine hc_region ?_
  refine hl_i rfl rfl rfl (e_alloc rfl Z82) ?_; intro g4
  refine hl_nil ?_
  refine hq_then ?_
  refine hc_seq ?_
  refine hc_seq ?_
  refine hc_region ?_
  refine hl_y rfl rfl rfl (y_move rfl rfl) ?_
  refine hl_y rfl rfl rfl (y_lenE (l.length) rfl rfl S22 rfl (rdF hv) (by first | rfl | simp only [ls_len, ns_len] | (simp only [ls_len, ns_len]; omega))) ?_
  refine hl_y rfl rfl rfl (y_neqn (q := 32) rfl rfl rfl ) ?_
  refine hl_nil ?_
  refine hq_then ?_
  refine hc_if rfl (fun c0 => ?_) (fun c0 => ?_)
  · replace c0 := of_decide_eq_true c0
    refine hc_seq ?_
    refine hc_region ?_
    refine hl_y rfl rfl rfl (y_ldw 0 rfl T82 rfl rfl) ?_
    refine hl_i0 rfl rfl (e_stw 1 rfl T82.2 rfl rfl rfl (ns_oneb _ _)) ?_; intro _
    refine hl_y rfl rfl rfl (y_assign (v := vi 4) rfl rfl) ?_
    refine hl_nil ?_
    refine hq_then ?_
    refine hc_ret ?_
    exact hq_then_ret (hq_ret2 (()) rfl (rv_arr 1 rfl T82 rfl (ns_len _ _).symm) (rv_tmp rfl) (by rw [schR, schFault, if_neg (by omega), if_neg (by omega)]) (fun _ h => Mm.pick h [] (by simp)))
  · replace c0 := of_decide_eq_false c0
    refine hc_skip ?_
    refine hq_then ?_
    refine hc_seq ?_
    refine hc_region ?_
    refine hl_y rfl rfl rfl (y_move rfl rfl) ?_
    refine hl_i rfl rfl rfl (e_call0 rfl F106 rfl (fun w hw => r11_Words_ct _ _ w ((rdF hv) w hw) (by omega)) rfl) ?_; intro _
    refine hl_i rfl rfl rfl (e_alloc rfl Z100) ?_; intro g5
    refine hl_i0 rfl rfl (e_stw 0 rfl T100.2 rfl rfl rfl (ns_oneb _ _)) ?_; intro _
    refine hl_nil ?_
    refine hq_then ?_
    refine hc_seq ?_
    refine hc_seq ?_
    refine hc_region ?_
    refine hl_y rfl rfl rfl (y_assign (v := vi 0) rfl rfl) ?_
    refine hl_nil ?_
    refine hq_then ?_
    refine hc_block ?_
    refine hc_loop (fun a => a ≤ 60) (fun a => 60 - a) (fun a => [(2, .pointer (some ⟨g2, 0, none⟩)), (4, .pointer (some ⟨g4, 0, none⟩)), (5, .pointer (some ⟨g5, 0, none⟩)), (6, vi a)]) (fun a => Mm w [.blk g5 100 (ns vb 240 (wGen turnR (keyF l) 60)), .blk g4 82 (ns vb 240 (fun i => if i < 4 * a then (wGen turnR (keyF l) 60) i else 0)), .blk g2 82 (ns vb 240 (fun _ => 0))]) (0) (by omega) ⟨rfl, rfl, rfl, lk_int rfl (by omega), trivial⟩ (fun _ h => Mm.mm h (by simp)) ?_
    intro a ha
    refine hc_seq ?_
    refine hc_seq ?_
    refine hc_region ?_
    refine hl_y rfl rfl rfl (y_move rfl rfl) ?_
    refine hl_y rfl rfl rfl (y_lssn (q := 60) rfl rfl rfl ) ?_
    refine hl_nil ?_
    refine hq_then ?_
    refine hc_if rfl (fun c1 => ?_) (fun c1 => ?_)
    · replace c1 := of_decide_eq_true c1
      refine hc_skip ?_
      refine hq_then ?_
      refine hc_seq ?_
      refine hc_block ?_
      refine hc_seq ?_
      refine hc_region ?_
      refine hl_y rfl rfl rfl (y_assign (v := vi 0) rfl rfl) ?_
      refine hl_nil ?_
      refine hq_then ?_
      refine hc_block ?_
      refine hc_loop (fun k => k ≤ 4) (fun k => 4 - k) (fun k => [(2, .pointer (some ⟨g2, 0, none⟩)), (4, .pointer (some ⟨g4, 0, none⟩)), (5, .pointer (some ⟨g5, 0, none⟩)), (6, vi a), (7, vi k)]) (fun k => Mm w [.blk g5 100 (ns vb 240 (wGen turnR (keyF l) 60)), .blk g4 82 (ns vb 240 (fun i => if i < 4 * a + k then (wGen turnR (keyF l) 60) i else 0)), .blk g2 82 (ns vb 240 (fun _ => 0))]) (0) (by omega) ⟨rfl, rfl, rfl, lk_int rfl (by omega), lk_int rfl (by omega), trivial⟩ (fun _ h => h) ?_
      intro k hk
      refine hc_seq ?_
      refine hc_seq ?_
      refine hc_region ?_
      refine hl_y rfl rfl rfl (y_move rfl rfl) ?_
      refine hl_y rfl rfl rfl (y_lssn (q := 4) rfl rfl rfl ) ?_
      refine hl_nil ?_
      refine hq_then ?_
      refine hc_if rfl (fun c2 => ?_) (fun c2 => ?_)
      · replace c2 := of_decide_eq_true c2
        refine hc_skip ?_
        refine hq_then ?_
        refine hc_seq ?_
        refine hc_block ?_
        refine hc_drawP [0] follows_mixed ?_
        refine hh_y 0 rfl rfl rfl rfl (by kernel_rfl) (by kernel_rfl) (by kernel_rfl) (fun _ h => Mm.pick h [0] (by decide)) (y_move rfl rfl) ?_
        refine hh_y 1 rfl rfl rfl rfl (by kernel_rfl) (by kernel_rfl) (by kernel_rfl) (fun _ h => Mm.pick h [0] (by decide)) (y_quon (q := 4) rfl rfl rfl (by omega) (by omega)) ?_
        refine hh_y 2 rfl rfl rfl rfl (by kernel_rfl) (by kernel_rfl) (by kernel_rfl) (fun _ h => Mm.pick h [0] (by decide)) (y_move rfl rfl) ?_
        refine hh_y 3 rfl rfl rfl rfl (by kernel_rfl) (by kernel_rfl) (by kernel_rfl) (fun _ h => Mm.pick h [0] (by decide)) (y_remn (q := 4) rfl rfl rfl (by omega)) ?_
        refine hh_y 4 rfl rfl rfl rfl (by kernel_rfl) (by kernel_rfl) (by kernel_rfl) (fun _ h => Mm.pick h [0] (by decide)) (y_muln (p := 4) rfl rfl rfl (by omega)) ?_
        refine hh_y 5 rfl rfl rfl rfl (by kernel_rfl) (by kernel_rfl) (by kernel_rfl) (fun _ h => Mm.pick h [0] (by decide)) (y_move rfl rfl) ?_
        refine hh_y 6 rfl rfl rfl rfl (by kernel_rfl) (by kernel_rfl) (by kernel_rfl) (fun _ h => Mm.pick h [0] (by decide)) (y_addn rfl rfl rfl (by omega)) ?_
        refine hh_y 7 rfl rfl rfl rfl (by kernel_rfl) (by kernel_rfl) (by kernel_rfl) (fun _ h => Mm.pick h [0] (by decide)) (y_move rfl rfl) ?_
        refine hh_y 8 rfl rfl rfl rfl (by kernel_rfl) (by kernel_rfl) (by kernel_rfl) (fun _ h => Mm.pick h [0] (by decide)) (y_move rfl rfl) ?_
        refine hh_y 9 rfl rfl rfl rfl (by kernel_rfl) (by kernel_rfl) (by kernel_rfl) (fun _ h => Mm.pick h [0] (by decide)) (y_ixaz rfl T100 T99 rfl rfl (by omega)) ?_
        refine hh_y 10 rfl rfl rfl rfl (by kernel_rfl) (by kernel_rfl) (by kernel_rfl) (fun _ h => Mm.pick h [0] (by decide)) (y_ixaq rfl T99 O5 rfl rfl (by omega)) ?_
        refine hh_y 11 rfl rfl rfl rfl (by kernel_rfl) (by kernel_rfl) (by kernel_rfl) (fun _ h => Mm.pick h [0] (by decide)) (y_ldn 0 rfl O5 rfl rfl (by omega)) ?_
        refine hh_y 12 rfl rfl rfl rfl (by kernel_rfl) (by kernel_rfl) (by kernel_rfl) (fun _ h => Mm.pick h [0] (by decide)) (y_ixaz rfl T82 T81 rfl rfl (by omega)) ?_
        refine hh_y 13 rfl rfl rfl rfl (by kernel_rfl) (by kernel_rfl) (by kernel_rfl) (fun _ h => Mm.pick h [0] (by decide)) (y_ixaq rfl T81 O5 rfl rfl (by omega)) ?_
        refine hh_i0 14 rfl rfl rfl (by kernel_rfl) (e_stn 1 rfl O5.2 rfl rfl rfl rfl (by omega)) (fun _ _ h => Mm.pick_set h [0] (by decide) (by decide)) ?_; intro _
        refine hh_done (by kernel_rfl) ?_
        refine hq_in (hq_then ?_)
        refine hc_region ?_
        refine hl_y rfl rfl rfl (y_move rfl rfl) ?_
        refine hl_y rfl rfl rfl (y_addn (q := 1) rfl rfl rfl (by omega)) ?_
        refine hl_y rfl rfl rfl (y_assign rfl rfl) ?_
        refine hl_nil ?_
        exact hq_round (k + 1) (by omega) (by omega) ⟨rfl, rfl, rfl, lk_int rfl (by omega), lk_int rfl (by omega), trivial⟩ (fun _ h => Mm.set h 1 rfl (by rw [show a / 4 * 16 + (4 * (a % 4) + k) = 4 * a + k from by omega]; exact ns_step (f := (wGen turnR (keyF l) 60)) (g := fun _ => 0) (x := (wGen turnR (keyF l) 60) (a * 4 + k)) (by rw [Nat.mul_comm a 4])))
      · replace c2 := of_decide_eq_false c2
        refine hc_exit ?_
        refine hq_then_exit (hq_loop_exit (hq_in_same (hq_in (hq_then ?_))))
        refine hc_region ?_
        refine hl_y rfl rfl rfl (y_move rfl rfl) ?_
        refine hl_y rfl rfl rfl (y_addn (q := 1) rfl rfl rfl (by omega)) ?_
        refine hl_y rfl rfl rfl (y_assign rfl rfl) ?_
        refine hl_nil ?_
        exact hq_round (a + 1) (by omega) (by omega) ⟨rfl, rfl, rfl, lk_int rfl (by omega), trivial⟩ (fun _ h => Mm.set h 1 rfl (by rw [show 4 * a + k = 4 * (a + 1) from by omega]))
    · replace c1 := of_decide_eq_false c1
      refine hc_exit ?_
      refine hq_then_exit (hq_loop_exit (hq_in_same (hq_then ?_)))
      refine hc_seq ?_
      refine hc_region ?_
      refine hl_y rfl rfl rfl (y_ldw 1 rfl T82 rfl rfl) ?_
      refine hl_i0 rfl rfl (e_stw 2 rfl T82.2 rfl rfl rfl (ns_oneb _ _)) ?_; intro _
      refine hl_y rfl rfl rfl (y_assign (v := vi 0) rfl rfl) ?_
      refine hl_nil ?_
      refine hq_then ?_
      refine hc_ret ?_
      exact hq_ret2 (()) rfl (rv_arr 2 rfl T82 rfl (ns_len _ _).symm) (rv_tmp rfl) (by rw [schR, schFault, if_pos (by omega), if_pos (by omega), ns_full (by omega)]) (fun _ h => Mm.pick h [] (by simp))

theorem r11_Encrypt_ct (k s : Nat → UInt8) (w : World) : Ct0 Tryd.prog 97 #[.agg (ns vb 240 (k)).toArray, .agg (ns vb 16 s).toArray] w (.agg (ns vb 16 (encR k s)).toArray) := by
  refine ct0_of Tryd.func97 rfl Tryd.ntmps97 rfl ?_
  refine hc_seq ?_
  refine hc_region ?_
  refine hl_i rfl rfl rfl (e_boxa rfl rfl) ?_; intro g2
  refine hl_i rfl rfl rfl (e_boxa rfl rfl) ?_; intro g3
  refine hl_i rfl rfl rfl (e_alloc rfl Z81) ?_; intro g4
  refine hl_nil ?_
  refine hq_then ?_
  refine hc_seq ?_
  refine hc_region ?_
  refine hl_y rfl rfl rfl (y_ldw 1 rfl T81 rfl rfl) ?_
  refine hl_y rfl rfl rfl (y_ixaz (k := 0) rfl T82 T81 rfl rfl (by omega)) ?_
  refine hl_y rfl rfl rfl (y_ldp 2 rfl T81 rfl rfl (by omega)) ?_
  refine hl_i rfl rfl rfl (e_call0 rfl F107 rfl (fun w hw => r11_Add_ct _ _ w) rfl) ?_; intro _
  refine hl_i0 rfl rfl (e_stw 1 rfl T81.2 rfl rfl rfl (ns_oneb _ _)) ?_; intro _
  refine hl_nil ?_
  refine hq_then ?_
  refine hc_seq ?_
  refine hc_seq ?_
  refine hc_region ?_
  refine hl_y rfl rfl rfl (y_assign (v := vi 1) rfl rfl) ?_
  refine hl_nil ?_
  refine hq_then ?_
  refine hc_block ?_
  refine hc_loop (fun r => r ≤ 14) (fun r => 14 - r) (fun r => [(2, .pointer (some ⟨g2, 0, none⟩)), (3, .pointer (some ⟨g3, 0, none⟩)), (4, .pointer (some ⟨g4, 0, none⟩)), (5, vi (r + 1))]) (fun r => Mm w [.blk g4 81 (ns vb 16 (fun _ => 0)), .blk g3 81 (ns vb 16 (encStR k s r)), .blk g2 82 (ns vb 240 (k))]) (0) (by omega) ⟨rfl, rfl, rfl, lk_int rfl (by omega), trivial⟩ (fun _ h => h) ?_
  intro r hk
  refine hc_seq ?_
  refine hc_seq ?_
  refine hc_region ?_
  refine hl_y rfl rfl rfl (y_move rfl rfl) ?_
  refine hl_y rfl rfl rfl (y_lssn (q := 15) rfl rfl rfl ) ?_
  refine hl_nil ?_
  refine hq_then ?_
  refine hc_if rfl (fun c0 => ?_) (fun c0 => ?_)
  · replace c0 := of_decide_eq_true c0
    refine hc_skip ?_
    refine hq_then ?_
    refine hc_seq ?_
    refine hc_block ?_
    refine hc_seq ?_
    refine hc_region ?_
    refine hl_y rfl rfl rfl (y_ldw 1 rfl T81 rfl rfl) ?_
    refine hl_i rfl rfl rfl (e_call0 rfl F109 rfl (fun w hw => r11_Sub_ct _ w) rfl) ?_; intro _
    refine hl_i rfl rfl rfl (e_call0 rfl F108 rfl (fun w hw => r11_Shift_ct _ w) rfl) ?_; intro _
    refine hl_i0 rfl rfl (e_stw 1 rfl T81.2 rfl rfl rfl (ns_oneb _ _)) ?_; intro _
    refine hl_nil ?_
    refine hq_then ?_
    refine hc_seq ?_
    refine hc_seq ?_
    refine hc_region ?_
    refine hl_y rfl rfl rfl (y_move rfl rfl) ?_
    refine hl_y rfl rfl rfl (y_lssn (q := 14) rfl rfl rfl ) ?_
    refine hl_nil ?_
    refine hq_then ?_
    refine hc_if rfl (fun c1 => ?_) (fun c1 => ?_)
    · replace c1 := of_decide_eq_true c1
      refine hc_region ?_
      refine hl_y rfl rfl rfl (y_ldw 1 rfl T81 rfl rfl) ?_
      refine hl_i rfl rfl rfl (e_call0 rfl F110 rfl (fun w hw => r11_Mix_ct _ w) rfl) ?_; intro _
      refine hl_i0 rfl rfl (e_stw 1 rfl T81.2 rfl rfl rfl (ns_oneb _ _)) ?_; intro _
      refine hl_nil ?_
      refine hq_then ?_
      refine hc_drawP [2] follows_mixed ?_
      refine hh_y 1 rfl rfl rfl rfl (by kernel_rfl) (by kernel_rfl) (by kernel_rfl) (fun _ h => Mm.pick h [2] (by decide)) (y_move rfl rfl) ?_
      refine hh_y 2 rfl rfl rfl rfl (by kernel_rfl) (by kernel_rfl) (by kernel_rfl) (fun _ h => Mm.pick h [2] (by decide)) (y_ixaz rfl T82 T81 rfl rfl (by omega)) ?_
      refine hh_y 3 rfl rfl rfl rfl (by kernel_rfl) (by kernel_rfl) (by kernel_rfl) (fun _ h => Mm.pick h [2] (by decide)) (y_ldp 0 rfl T81 rfl rfl (by omega)) ?_
      refine hh_i 0 rfl rfl rfl rfl (by kernel_rfl) (ef_y (y_ldw 1 rfl T81 rfl rfl)) (fun _ _ h => Mm.pick h [2] (by decide)) ?_; intro _
      refine hh_i 4 rfl rfl rfl rfl (by kernel_rfl) (e_call0 rfl F107 rfl (fun w hw => r11_Add_ct _ _ w) rfl) (fun _ _ h => Mm.pick h [2] (by decide)) ?_; intro _
      refine hh_i0 5 rfl rfl rfl (by kernel_rfl) (e_stw 1 rfl T81.2 rfl rfl rfl (ns_oneb _ _)) (fun _ _ h => Mm.pick_set h [2] (by decide) (by decide)) ?_; intro _
      refine hh_done (by kernel_rfl) ?_
      refine hq_in (hq_then ?_)
      refine hc_region ?_
      refine hl_y rfl rfl rfl (y_move rfl rfl) ?_
      refine hl_y rfl rfl rfl (y_addn (q := 1) rfl rfl rfl (by omega)) ?_
      refine hl_y rfl rfl rfl (y_assign rfl rfl) ?_
      refine hl_nil ?_
      exact hq_round (r + 1) (by omega) (by omega) ⟨rfl, rfl, rfl, lk_int rfl (by omega), trivial⟩ (fun _ h => Mm.set h 1 rfl (enc_stepTR (by omega)))
    · replace c1 := of_decide_eq_false c1
      refine hc_skip ?_
      refine hq_then ?_
      refine hc_drawP [2] follows_mixed ?_
      refine hh_y 1 rfl rfl rfl rfl (by kernel_rfl) (by kernel_rfl) (by kernel_rfl) (fun _ h => Mm.pick h [2] (by decide)) (y_move rfl rfl) ?_
      refine hh_y 2 rfl rfl rfl rfl (by kernel_rfl) (by kernel_rfl) (by kernel_rfl) (fun _ h => Mm.pick h [2] (by decide)) (y_ixaz rfl T82 T81 rfl rfl (by omega)) ?_
      refine hh_y 3 rfl rfl rfl rfl (by kernel_rfl) (by kernel_rfl) (by kernel_rfl) (fun _ h => Mm.pick h [2] (by decide)) (y_ldp 0 rfl T81 rfl rfl (by omega)) ?_
      refine hh_i 0 rfl rfl rfl rfl (by kernel_rfl) (ef_y (y_ldw 1 rfl T81 rfl rfl)) (fun _ _ h => Mm.pick h [2] (by decide)) ?_; intro _
      refine hh_i 4 rfl rfl rfl rfl (by kernel_rfl) (e_call0 rfl F107 rfl (fun w hw => r11_Add_ct _ _ w) rfl) (fun _ _ h => Mm.pick h [2] (by decide)) ?_; intro _
      refine hh_i0 5 rfl rfl rfl (by kernel_rfl) (e_stw 1 rfl T81.2 rfl rfl rfl (ns_oneb _ _)) (fun _ _ h => Mm.pick_set h [2] (by decide) (by decide)) ?_; intro _
      refine hh_done (by kernel_rfl) ?_
      refine hq_in (hq_then ?_)
      refine hc_region ?_
      refine hl_y rfl rfl rfl (y_move rfl rfl) ?_
      refine hl_y rfl rfl rfl (y_addn (q := 1) rfl rfl rfl (by omega)) ?_
      refine hl_y rfl rfl rfl (y_assign rfl rfl) ?_
      refine hl_nil ?_
      exact hq_round (r + 1) (by omega) (by omega) ⟨rfl, rfl, rfl, lk_int rfl (by omega), trivial⟩ (fun _ h => Mm.set h 1 rfl (enc_stepFR (by omega)))
  · replace c0 := of_decide_eq_false c0
    refine hc_exit ?_
    refine hq_then_exit (hq_loop_exit (hq_in_same (hq_then ?_)))
    refine hc_seq ?_
    refine hc_region ?_
    refine hl_y rfl rfl rfl (y_ldw 1 rfl T81 rfl rfl) ?_
    refine hl_i0 rfl rfl (e_stw 0 rfl T81.2 rfl rfl rfl (ns_oneb _ _)) ?_; intro _
    refine hl_nil ?_
    refine hq_then ?_
    refine hc_ret ?_
    exact hq_ret1 (()) rfl (rv_arr 0 rfl T81 rfl (ns_len _ _).symm) (by rw [encR, show r = 14 from by omega]) (fun _ h => Mm.pick h [] (by simp))

end Go.Proofs.YtcdidapkpfnphaaDoor
