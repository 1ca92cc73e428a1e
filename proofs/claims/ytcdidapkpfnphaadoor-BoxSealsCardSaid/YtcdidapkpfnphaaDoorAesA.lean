/- The steps of the cipher: what each call gives back. -/
import Derived.Test.YtcdidapkpfnphaaDoorGf
import Derived.Test.YtcdidapkpfnphaaDoorSpecAes
import Derived.Test.YtcdidapkpfnphaaDoorLibH
namespace Go.Proofs.YtcdidapkpfnphaaDoor
open Go.RowKit
set_option linter.unusedVariables false
set_option linter.unusedSimpArgs false
set_option maxRecDepth 100000
theorem mix_step {s : Nat → UInt8} {k : Nat} (hk : k < 4) : ns vb 16 (fun i => if 4 * k ≤ i ∧ i < 4 * k + 4 then colG (fun j => if 4 * k + j < 4 * k then mixF s (4 * k + j) else s (4 * k + j)) (i - 4 * k) else if i < 4 * k then mixF s i else s i) = ns vb 16 (fun i => if i < 4 * (k + 1) then mixF s i else s i) := by
  apply ns_ext
  intro i hi
  have e : (fun j => if 4 * k + j < 4 * k then mixF s (4 * k + j) else s (4 * k + j)) = fun j => s (4 * k + j) := by
    funext j
    rw [if_neg (by omega)]
  rw [e]
  by_cases h1 : 4 * k ≤ i ∧ i < 4 * k + 4
  · rw [if_pos h1, if_pos (by omega), mixF, show i / 4 = k from by omega, show i % 4 = i - 4 * k from by omega]
  · rw [if_neg h1]
    by_cases h2 : i < 4 * k
    · rw [if_pos h2, if_pos (by omega)]
    · rw [if_neg h2, if_neg (by omega)]
theorem aes_Sub_ct (s : Nat → UInt8) (w : World) : Ct0 Tryd.prog 105 #[.agg (ns vb 16 s).toArray] w (.agg (ns vb 16 (subF s)).toArray) := by
  refine ct0_of Tryd.func105 rfl Tryd.ntmps105 rfl ?_
  refine hc_seq ?_
  refine hc_region ?_
  refine hl_i rfl rfl rfl (e_boxa rfl rfl) ?_; intro g1
  refine hl_i rfl rfl rfl (e_alloc rfl Z81) ?_; intro g2
  refine hl_nil ?_
  refine hq_then ?_
  refine hc_seq ?_
  refine hc_seq ?_
  refine hc_region ?_
  refine hl_y rfl rfl rfl (y_ldw 1 rfl T81 rfl rfl) ?_
  refine hl_y rfl rfl rfl (y_move (v := vi 0) rfl rfl) ?_
  refine hl_nil ?_
  refine hq_then ?_
  refine hc_block ?_
  refine hc_loop (fun k => k ≤ 16) (fun k => 16 - k) (fun k => [(1, .pointer (some ⟨g1, 0, none⟩)), (2, .pointer (some ⟨g2, 0, none⟩)), (6, vi k), (5, .agg (ns vb 16 s).toArray)]) (fun k => Mm w [.blk g2 81 (ns vb 16 (fun _ => 0)), .blk g1 81 (ns vb 16 (fun i => if i < k then subF s i else s i))]) (0) (by omega) ⟨rfl, rfl, lk_int rfl (by omega), rfl, trivial⟩ (fun _ h => Mm.mm h (by simp)) ?_
  intro k hk
  refine hc_seq ?_
  refine hc_region ?_
  refine hl_y rfl rfl rfl (y_lssn (q := 16) rfl rfl rfl ) ?_
  refine hl_nil ?_
  refine hq_then ?_
  refine hc_seq ?_
  refine hc_if rfl (fun c0 => ?_) (fun c0 => ?_)
  · replace c0 := of_decide_eq_true c0
    refine hc_skip ?_
    refine hq_then ?_
    refine hc_seq ?_
    refine hc_block ?_
    refine hc_seq ?_
    refine hc_region ?_
    refine hl_y rfl rfl rfl (y_move rfl rfl) ?_
    refine hl_y rfl rfl rfl (y_ixn rfl T81 O5 rfl rfl (by omega) (by omega)) ?_
    refine hl_y rfl rfl rfl (y_assign rfl rfl) ?_
    refine hl_y rfl rfl rfl (y_assign rfl rfl) ?_
    refine hl_nil ?_
    refine hq_then ?_
    refine hc_region ?_
    refine hl_y rfl rfl rfl (y_move rfl rfl) ?_
    refine hl_y rfl rfl rfl (y_move rfl rfl) ?_
    refine hl_i rfl rfl rfl (e_call0 rfl F115 rfl (fun w hw => gf_Box_ct _ w) rfl) ?_; intro _
    refine hl_y rfl rfl rfl (y_ixa1 rfl T81 O5 rfl rfl (by omega)) ?_
    refine hl_i0 rfl rfl (e_stn 1 rfl O5.2 rfl rfl rfl rfl (by omega)) ?_; intro _
    refine hl_nil ?_
    refine hq_in (hq_then ?_)
    refine hc_region ?_
    refine hl_y rfl rfl rfl (y_addn (q := 1) rfl rfl rfl (by omega)) ?_
    refine hl_y rfl rfl rfl (y_move rfl rfl) ?_
    refine hl_nil ?_
    exact hq_round (k + 1) (by omega) (by omega) ⟨rfl, rfl, lk_int rfl (by omega), rfl, trivial⟩ (fun _ h => Mm.set h 1 rfl (ns_step (f := subF s) (g := s) rfl))
  · replace c0 := of_decide_eq_false c0
    refine hc_exit ?_
    refine hq_then_exit (hq_loop_exit (hq_in_same (hq_then ?_)))
    refine hc_seq ?_
    refine hc_region ?_
    refine hl_y rfl rfl rfl (y_ldw 1 rfl T81 rfl rfl) ?_
    refine hl_i0 rfl rfl (e_stw 0 rfl T81.2 rfl rfl rfl (ns_oneb _ _)) ?_; intro _
    refine hl_nil ?_
    refine hq_then ?_
    refine hc_ret ?_
    exact hq_ret1 (()) rfl (rv_arr 0 rfl T81 rfl (ns_len _ _).symm) (by rw [ns_full (by omega)]) (fun _ h => Mm.pick h [] (by simp))

theorem r11_Sub_ct (s : Nat → UInt8) (w : World) : Ct0 Tryd.prog 109 #[.agg (ns vb 16 s).toArray] w (.agg (ns vb 16 (subR s)).toArray) := by
  refine ct0_of Tryd.func109 rfl Tryd.ntmps109 rfl ?_
  refine hc_seq ?_
  refine hc_region ?_
  refine hl_i rfl rfl rfl (e_boxa rfl rfl) ?_; intro g1
  refine hl_i rfl rfl rfl (e_alloc rfl Z81) ?_; intro g2
  refine hl_nil ?_
  refine hq_then ?_
  refine hc_seq ?_
  refine hc_seq ?_
  refine hc_region ?_
  refine hl_y rfl rfl rfl (y_assign (v := vi 0) rfl rfl) ?_
  refine hl_nil ?_
  refine hq_then ?_
  refine hc_block ?_
  refine hc_loop (fun k => k ≤ 16) (fun k => 16 - k) (fun k => [(1, .pointer (some ⟨g1, 0, none⟩)), (2, .pointer (some ⟨g2, 0, none⟩)), (3, vi k)]) (fun k => Mm w [.blk g2 81 (ns vb 16 (fun _ => 0)), .blk g1 81 (ns vb 16 (fun i => if i < k then subR s i else s i))]) (0) (by omega) ⟨rfl, rfl, lk_int rfl (by omega), trivial⟩ (fun _ h => Mm.mm h (by simp)) ?_
  intro k hk
  refine hc_seq ?_
  refine hc_seq ?_
  refine hc_region ?_
  refine hl_y rfl rfl rfl (y_move rfl rfl) ?_
  refine hl_y rfl rfl rfl (y_lssn (q := 16) rfl rfl rfl ) ?_
  refine hl_nil ?_
  refine hq_then ?_
  refine hc_if rfl (fun c0 => ?_) (fun c0 => ?_)
  · replace c0 := of_decide_eq_true c0
    refine hc_skip ?_
    refine hq_then ?_
    refine hc_seq ?_
    refine hc_block ?_
    refine hc_region ?_
    refine hl_y rfl rfl rfl (y_move rfl rfl) ?_
    refine hl_y rfl rfl rfl (y_move rfl rfl) ?_
    refine hl_y rfl rfl rfl (y_ixa1 rfl T81 O5 rfl rfl (by omega)) ?_
    refine hl_y rfl rfl rfl (y_ldn 1 rfl O5 rfl rfl (by omega)) ?_
    refine hl_i rfl rfl rfl (e_call0 rfl F116 rfl (fun w hw => r10_Box_ct _ w) rfl) ?_; intro _
    refine hl_y rfl rfl rfl (y_ixa1 rfl T81 O5 rfl rfl (by omega)) ?_
    refine hl_i0 rfl rfl (e_stn 1 rfl O5.2 rfl rfl rfl rfl (by omega)) ?_; intro _
    refine hl_nil ?_
    refine hq_in (hq_then ?_)
    refine hc_region ?_
    refine hl_y rfl rfl rfl (y_move rfl rfl) ?_
    refine hl_y rfl rfl rfl (y_addn (q := 1) rfl rfl rfl (by omega)) ?_
    refine hl_y rfl rfl rfl (y_assign rfl rfl) ?_
    refine hl_nil ?_
    exact hq_round (k + 1) (by omega) (by omega) ⟨rfl, rfl, lk_int rfl (by omega), trivial⟩ (fun _ h => Mm.set h 1 rfl (ns_step (f := subR s) (g := s) (by simp [subR])))
  · replace c0 := of_decide_eq_false c0
    refine hc_exit ?_
    refine hq_then_exit (hq_loop_exit (hq_in_same (hq_then ?_)))
    refine hc_seq ?_
    refine hc_region ?_
    refine hl_y rfl rfl rfl (y_ldw 1 rfl T81 rfl rfl) ?_
    refine hl_i0 rfl rfl (e_stw 0 rfl T81.2 rfl rfl rfl (ns_oneb _ _)) ?_; intro _
    refine hl_nil ?_
    refine hq_then ?_
    refine hc_ret ?_
    exact hq_ret1 (()) rfl (rv_arr 0 rfl T81 rfl (ns_len _ _).symm) (by rw [ns_full (by omega)]) (fun _ h => Mm.pick h [] (by simp))

theorem aes_Shift_ct (s : Nat → UInt8) (w : World) : Ct0 Tryd.prog 104 #[.agg (ns vb 16 s).toArray] w (.agg (ns vb 16 (shiftF s)).toArray) := by
  refine ct0_of Tryd.func104 rfl Tryd.ntmps104 rfl ?_
  refine hc_seq ?_
  refine hc_region ?_
  refine hl_i rfl rfl rfl (e_boxa rfl rfl) ?_; intro g1
  refine hl_i rfl rfl rfl (e_alloc rfl Z81) ?_; intro g2
  refine hl_nil ?_
  refine hq_then ?_
  refine hc_seq ?_
  refine hc_seq ?_
  refine hc_region ?_
  refine hl_y rfl rfl rfl (y_move (v := vi 0) rfl rfl) ?_
  refine hl_nil ?_
  refine hq_then ?_
  refine hc_block ?_
  refine hc_loop (fun k => k ≤ 16) (fun k => 16 - k) (fun k => [(1, .pointer (some ⟨g1, 0, none⟩)), (2, .pointer (some ⟨g2, 0, none⟩)), (4, vi k)]) (fun k => Mm w [.blk g2 81 (ns vb 16 (fun i => if i < k then shiftF s i else 0)), .blk g1 81 (ns vb 16 (s))]) (0) (by omega) ⟨rfl, rfl, lk_int rfl (by omega), trivial⟩ (fun _ h => Mm.mm h (by simp)) ?_
  intro k hk
  refine hc_seq ?_
  refine hc_region ?_
  refine hl_y rfl rfl rfl (y_lssn (q := 16) rfl rfl rfl ) ?_
  refine hl_nil ?_
  refine hq_then ?_
  refine hc_seq ?_
  refine hc_if rfl (fun c0 => ?_) (fun c0 => ?_)
  · replace c0 := of_decide_eq_true c0
    refine hc_skip ?_
    refine hq_then ?_
    refine hc_seq ?_
    refine hc_block ?_
    refine hc_seq ?_
    refine hc_region ?_
    refine hl_y rfl rfl rfl (y_move rfl rfl) ?_
    refine hl_y rfl rfl rfl (y_assign rfl rfl) ?_
    refine hl_nil ?_
    refine hq_then ?_
    refine hc_region ?_
    refine hl_y rfl rfl rfl (y_move rfl rfl) ?_
    refine hl_y rfl rfl rfl (y_move rfl rfl) ?_
    refine hl_y rfl rfl rfl (y_move rfl rfl) ?_
    refine hl_y rfl rfl rfl (y_remn (q := 4) rfl rfl rfl (by omega)) ?_
    refine hl_y rfl rfl rfl (y_muln (p := 4) rfl rfl rfl (by omega)) ?_
    refine hl_y rfl rfl rfl (y_addn rfl rfl rfl (by omega)) ?_
    refine hl_y rfl rfl rfl (y_remn (q := 16) rfl rfl rfl (by omega)) ?_
    refine hl_y rfl rfl rfl (y_ixa1 rfl T81 O5 rfl rfl (by omega)) ?_
    refine hl_y rfl rfl rfl (y_ldn 1 rfl O5 rfl rfl (by omega)) ?_
    refine hl_y rfl rfl rfl (y_ixa1 rfl T81 O5 rfl rfl (by omega)) ?_
    refine hl_i0 rfl rfl (e_stn 0 rfl O5.2 rfl rfl rfl rfl (by omega)) ?_; intro _
    refine hl_nil ?_
    refine hq_in (hq_then ?_)
    refine hc_region ?_
    refine hl_y rfl rfl rfl (y_addn (q := 1) rfl rfl rfl (by omega)) ?_
    refine hl_y rfl rfl rfl (y_move rfl rfl) ?_
    refine hl_nil ?_
    exact hq_round (k + 1) (by omega) (by omega) ⟨rfl, rfl, lk_int rfl (by omega), trivial⟩ (fun _ h => Mm.set h 0 rfl (ns_step (f := shiftF s) (g := fun _ => 0) rfl))
  · replace c0 := of_decide_eq_false c0
    refine hc_exit ?_
    refine hq_then_exit (hq_loop_exit (hq_in_same (hq_then ?_)))
    refine hc_seq ?_
    refine hc_region ?_
    refine hl_y rfl rfl rfl (y_ldw 0 rfl T81 rfl rfl) ?_
    refine hl_i0 rfl rfl (e_stw 0 rfl T81.2 rfl rfl rfl (ns_oneb _ _)) ?_; intro _
    refine hl_nil ?_
    refine hq_then ?_
    refine hc_ret ?_
    exact hq_ret1 (()) rfl (rv_arr 0 rfl T81 rfl (ns_len _ _).symm) (by rw [ns_full (by omega)]) (fun _ h => Mm.pick h [] (by simp))

theorem r11_Shift_ct (s : Nat → UInt8) (w : World) : Ct0 Tryd.prog 108 #[.agg (ns vb 16 s).toArray] w (.agg (ns vb 16 (shiftR s)).toArray) := by
  refine ct0_of Tryd.func108 rfl Tryd.ntmps108 rfl ?_
  refine hc_seq ?_
  refine hc_region ?_
  refine hl_i rfl rfl rfl (e_boxa rfl rfl) ?_; intro g1
  refine hl_i rfl rfl rfl (e_alloc rfl Z81) ?_; intro g2
  refine hl_nil ?_
  refine hq_then ?_
  refine hc_seq ?_
  refine hc_region ?_
  refine hl_i rfl rfl rfl (e_alloc rfl Z81) ?_; intro g3
  refine hl_nil ?_
  refine hq_then ?_
  refine hc_seq ?_
  refine hc_seq ?_
  refine hc_region ?_
  refine hl_y rfl rfl rfl (y_assign (v := vi 0) rfl rfl) ?_
  refine hl_nil ?_
  refine hq_then ?_
  refine hc_block ?_
  refine hc_loop (fun c => c ≤ 4) (fun c => 4 - c) (fun c => [(1, .pointer (some ⟨g1, 0, none⟩)), (2, .pointer (some ⟨g2, 0, none⟩)), (3, .pointer (some ⟨g3, 0, none⟩)), (4, vi c)]) (fun c => Mm w [.blk g3 81 (ns vb 16 (fun i => if i < 4 * c then shiftR s i else 0)), .blk g2 81 (ns vb 16 (fun _ => 0)), .blk g1 81 (ns vb 16 (s))]) (0) (by omega) ⟨rfl, rfl, rfl, lk_int rfl (by omega), trivial⟩ (fun _ h => Mm.mm h (by simp)) ?_
  intro c hk
  refine hc_seq ?_
  refine hc_seq ?_
  refine hc_region ?_
  refine hl_y rfl rfl rfl (y_move rfl rfl) ?_
  refine hl_y rfl rfl rfl (y_lssn (q := 4) rfl rfl rfl ) ?_
  refine hl_nil ?_
  refine hq_then ?_
  refine hc_if rfl (fun c0 => ?_) (fun c0 => ?_)
  · replace c0 := of_decide_eq_true c0
    refine hc_skip ?_
    refine hq_then ?_
    refine hc_seq ?_
    refine hc_block ?_
    refine hc_seq ?_
    refine hc_region ?_
    refine hl_y rfl rfl rfl (y_assign (v := vi 0) rfl rfl) ?_
    refine hl_nil ?_
    refine hq_then ?_
    refine hc_block ?_
    refine hc_loop (fun r => r ≤ 4) (fun r => 4 - r) (fun r => [(1, .pointer (some ⟨g1, 0, none⟩)), (2, .pointer (some ⟨g2, 0, none⟩)), (3, .pointer (some ⟨g3, 0, none⟩)), (4, vi c), (5, vi r)]) (fun r => Mm w [.blk g3 81 (ns vb 16 (fun i => if i < 4 * c + r then shiftR s i else 0)), .blk g2 81 (ns vb 16 (fun _ => 0)), .blk g1 81 (ns vb 16 (s))]) (0) (by omega) ⟨rfl, rfl, rfl, lk_int rfl (by omega), lk_int rfl (by omega), trivial⟩ (fun _ h => h) ?_
    intro r hr
    refine hc_seq ?_
    refine hc_seq ?_
    refine hc_region ?_
    refine hl_y rfl rfl rfl (y_move rfl rfl) ?_
    refine hl_y rfl rfl rfl (y_lssn (q := 4) rfl rfl rfl ) ?_
    refine hl_nil ?_
    refine hq_then ?_
    refine hc_if rfl (fun c1 => ?_) (fun c1 => ?_)
    · replace c1 := of_decide_eq_true c1
      refine hc_skip ?_
      refine hq_then ?_
      refine hc_seq ?_
      refine hc_block ?_
      refine hc_region ?_
      refine hl_y rfl rfl rfl (y_move rfl rfl) ?_
      refine hl_y rfl rfl rfl (y_muln (p := 4) rfl rfl rfl (by omega)) ?_
      refine hl_y rfl rfl rfl (y_move rfl rfl) ?_
      refine hl_y rfl rfl rfl (y_addn rfl rfl rfl (by omega)) ?_
      refine hl_y rfl rfl rfl (y_move rfl rfl) ?_
      refine hl_y rfl rfl rfl (y_move rfl rfl) ?_
      refine hl_y rfl rfl rfl (y_addn rfl rfl rfl (by omega)) ?_
      refine hl_y rfl rfl rfl (y_remn (q := 4) rfl rfl rfl (by omega)) ?_
      refine hl_y rfl rfl rfl (y_muln (p := 4) rfl rfl rfl (by omega)) ?_
      refine hl_y rfl rfl rfl (y_move rfl rfl) ?_
      refine hl_y rfl rfl rfl (y_addn rfl rfl rfl (by omega)) ?_
      refine hl_y rfl rfl rfl (y_ixa1 rfl T81 O5 rfl rfl (by omega)) ?_
      refine hl_y rfl rfl rfl (y_ldn 2 rfl O5 rfl rfl (by omega)) ?_
      refine hl_y rfl rfl rfl (y_ixa1 rfl T81 O5 rfl rfl (by omega)) ?_
      refine hl_i0 rfl rfl (e_stn 0 rfl O5.2 rfl rfl rfl rfl (by omega)) ?_; intro _
      refine hl_nil ?_
      refine hq_in (hq_then ?_)
      refine hc_region ?_
      refine hl_y rfl rfl rfl (y_move rfl rfl) ?_
      refine hl_y rfl rfl rfl (y_addn (q := 1) rfl rfl rfl (by omega)) ?_
      refine hl_y rfl rfl rfl (y_assign rfl rfl) ?_
      refine hl_nil ?_
      exact hq_round (r + 1) (by omega) (by omega) ⟨rfl, rfl, rfl, lk_int rfl (by omega), lk_int rfl (by omega), trivial⟩ (fun _ h => Mm.set h 0 rfl (ns_step (f := shiftR s) (g := fun _ => 0) (by rw [shiftR, show (4 * c + r) / 4 = c from by omega, show (4 * c + r) % 4 = r from by omega])))
    · replace c1 := of_decide_eq_false c1
      refine hc_exit ?_
      refine hq_then_exit (hq_loop_exit (hq_in_same (hq_in (hq_then ?_))))
      refine hc_region ?_
      refine hl_y rfl rfl rfl (y_move rfl rfl) ?_
      refine hl_y rfl rfl rfl (y_addn (q := 1) rfl rfl rfl (by omega)) ?_
      refine hl_y rfl rfl rfl (y_assign rfl rfl) ?_
      refine hl_nil ?_
      exact hq_round (c + 1) (by omega) (by omega) ⟨rfl, rfl, rfl, lk_int rfl (by omega), trivial⟩ (fun _ h => Mm.set h 0 rfl (by rw [show 4 * c + r = 4 * (c + 1) from by omega]))
  · replace c0 := of_decide_eq_false c0
    refine hc_exit ?_
    refine hq_then_exit (hq_loop_exit (hq_in_same (hq_then ?_)))
    refine hc_seq ?_
    refine hc_region ?_
    refine hl_y rfl rfl rfl (y_ldw 0 rfl T81 rfl rfl) ?_
    refine hl_i0 rfl rfl (e_stw 1 rfl T81.2 rfl rfl rfl (ns_oneb _ _)) ?_; intro _
    refine hl_nil ?_
    refine hq_then ?_
    refine hc_ret ?_
    exact hq_ret1 (()) rfl (rv_arr 1 rfl T81 rfl (ns_len _ _).symm) (by rw [ns_full (by omega)]) (fun _ h => Mm.pick h [] (by simp))

theorem aes_column_ct (f : Nat → UInt8) (v : Value) (w : World) (hv : Rd w v (ns vb 4 f)) : Ct Tryd.prog 114 #[v] w (fun g => .slice (some ⟨g, 0, none⟩) 4 4) (fun g => [.blk g 99 (ns vb 4 (colG f))]) := by
  refine ct_of Tryd.func114 rfl Tryd.ntmps114 rfl ?_
  refine hc_seq ?_
  refine hc_region ?_
  refine hl_y rfl rfl rfl (y_assign rfl rfl) ?_
  refine hl_nil ?_
  refine hq_then ?_
  refine hc_seq ?_
  refine hc_region ?_
  refine hl_y rfl rfl rfl (y_move rfl rfl) ?_
  refine hl_y rfl rfl rfl (y_s2a rfl T99 rfl (rdF hv) (by first | omega | (simp only [ls_len, ns_len]; omega) | (simp only [List.length_take, List.length_drop, ls_len, ns_len]; omega)) (by decide)) ?_
  refine hl_y rfl rfl rfl (y_ldsa rfl T99 rfl (rdF hv) (ns_sub0 (by omega)) (by first | omega | (simp only [ls_len, ns_len]; omega) | (simp only [List.length_take, List.length_drop, ls_len, ns_len]; omega))) ?_
  refine hl_i rfl rfl rfl (e_call0 rfl F120 rfl (fun w hw => gf_Column_ct _ w) rfl) ?_; intro _
  refine hl_i rfl rfl rfl (e_alloc rfl Z99) ?_; intro g3
  refine hl_i0 rfl rfl (e_stw 0 rfl T99.2 rfl rfl rfl (ns_oneb _ _)) ?_; intro _
  refine hl_nil ?_
  refine hq_then ?_
  refine hc_seq ?_
  refine hc_region ?_
  refine hl_y rfl rfl rfl (y_slcaw rfl T99 O5 rfl (by omega)) ?_
  refine hl_y rfl rfl rfl (y_assign rfl rfl) ?_
  refine hl_nil ?_
  refine hq_then ?_
  refine hc_ret ?_
  exact hq_ret1 (g3) rfl (rv_tmp rfl) rfl (fun _ h => Mm.pick h [0] (by simp))

theorem aes_Mix_ct (s : Nat → UInt8) (w : World) : Ct0 Tryd.prog 103 #[.agg (ns vb 16 s).toArray] w (.agg (ns vb 16 (mixF s)).toArray) := by
  refine ct0_of Tryd.func103 rfl Tryd.ntmps103 rfl ?_
  refine hc_seq ?_
  refine hc_region ?_
  refine hl_i rfl rfl rfl (e_boxa rfl rfl) ?_; intro g1
  refine hl_i rfl rfl rfl (e_alloc rfl Z81) ?_; intro g2
  refine hl_nil ?_
  refine hq_then ?_
  refine hc_seq ?_
  refine hc_seq ?_
  refine hc_region ?_
  refine hl_y rfl rfl rfl (y_assign (v := vi 0) rfl rfl) ?_
  refine hl_nil ?_
  refine hq_then ?_
  refine hc_block ?_
  refine hc_loop (fun k => k ≤ 4) (fun k => 4 - k) (fun k => [(1, .pointer (some ⟨g1, 0, none⟩)), (2, .pointer (some ⟨g2, 0, none⟩)), (3, vi (4 * k))]) (fun k => Mm w [.blk g2 81 (ns vb 16 (fun _ => 0)), .blk g1 81 (ns vb 16 (fun i => if i < 4 * k then mixF s i else s i))]) (0) (by omega) ⟨rfl, rfl, lk_int rfl (by omega), trivial⟩ (fun _ h => Mm.mm h (by simp)) ?_
  intro k hk
  refine hc_seq ?_
  refine hc_seq ?_
  refine hc_region ?_
  refine hl_y rfl rfl rfl (y_move rfl rfl) ?_
  refine hl_y rfl rfl rfl (y_lssn (q := 16) rfl rfl rfl ) ?_
  refine hl_nil ?_
  refine hq_then ?_
  refine hc_if rfl (fun c0 => ?_) (fun c0 => ?_)
  · replace c0 := of_decide_eq_true c0
    refine hc_skip ?_
    refine hq_then ?_
    refine hc_seq ?_
    refine hc_block ?_
    refine hc_drawP [] follows_mixed ?_
    refine hh_y 0 rfl rfl rfl rfl (by kernel_rfl) (by kernel_rfl) (by kernel_rfl) (fun _ h => Mm.pick h [] (by decide)) (y_move rfl rfl) ?_
    refine hh_y 1 rfl rfl rfl rfl (by kernel_rfl) (by kernel_rfl) (by kernel_rfl) (fun _ h => Mm.pick h [] (by decide)) (y_move rfl rfl) ?_
    refine hh_y 2 rfl rfl rfl rfl (by kernel_rfl) (by kernel_rfl) (by kernel_rfl) (fun _ h => Mm.pick h [] (by decide)) (y_addn (q := 4) rfl rfl rfl (by omega)) ?_
    refine hh_y 3 rfl rfl rfl rfl (by kernel_rfl) (by kernel_rfl) (by kernel_rfl) (fun _ h => Mm.pick h [] (by decide)) (y_slcaF (n' := 4) rfl T81 O5 rfl rfl rfl (by omega) (by omega) (by omega)) ?_
    refine hh_y 4 rfl rfl rfl rfl (by kernel_rfl) (by kernel_rfl) (by kernel_rfl) (fun _ h => Mm.pick h [] (by decide)) (y_move rfl rfl) ?_
    refine hh_y 5 rfl rfl rfl rfl (by kernel_rfl) (by kernel_rfl) (by kernel_rfl) (fun _ h => Mm.pick h [] (by decide)) (y_move rfl rfl) ?_
    refine hh_y 6 rfl rfl rfl rfl (by kernel_rfl) (by kernel_rfl) (by kernel_rfl) (fun _ h => Mm.pick h [] (by decide)) (y_addn (q := 4) rfl rfl rfl (by omega)) ?_
    refine hh_y 7 rfl rfl rfl rfl (by kernel_rfl) (by kernel_rfl) (by kernel_rfl) (fun _ h => Mm.pick h [] (by decide)) (y_slcaF (n' := 4) rfl T81 O5 rfl rfl rfl (by omega) (by omega) (by omega)) ?_
    refine hh_i 8 rfl rfl rfl rfl (by kernel_rfl) (e_call rfl F114 rfl (fun w hw => aes_column_ct _ _ w ((rdB 1 rfl (ns_sub (by omega)) (ns_len _ _) (by omega)) w hw)) rfl) (fun _ _ h => Mm.pick h [] (by decide)) ?_; intro y16
    refine hh_i 9 rfl rfl rfl rfl (by kernel_rfl) (e_cpn 2 rfl S22 rfl rfl rfl (rdB 0 rfl (ns_sub0 (by omega)) (ns_len _ _) (by omega)) (by omega) (by omega)) (fun _ _ h => Mm.pick_set h [] (by decide) (by decide)) ?_; intro _
    refine hh_done (by kernel_rfl) ?_
    refine hq_in (hq_then ?_)
    refine hc_region ?_
    refine hl_y rfl rfl rfl (y_move rfl rfl) ?_
    refine hl_y rfl rfl rfl (y_addn (q := 4) rfl rfl rfl (by omega)) ?_
    refine hl_y rfl rfl rfl (y_assign rfl rfl) ?_
    refine hl_nil ?_
    exact hq_round (k + 1) (by omega) (by omega) ⟨rfl, rfl, lk_int rfl (by omega), trivial⟩ (fun _ h => (Mm.pick h [1, 2] (by decide)).set 1 rfl (mix_step (by omega)))
  · replace c0 := of_decide_eq_false c0
    refine hc_exit ?_
    refine hq_then_exit (hq_loop_exit (hq_in_same (hq_then ?_)))
    refine hc_seq ?_
    refine hc_region ?_
    refine hl_y rfl rfl rfl (y_ldw 1 rfl T81 rfl rfl) ?_
    refine hl_i0 rfl rfl (e_stw 0 rfl T81.2 rfl rfl rfl (ns_oneb _ _)) ?_; intro _
    refine hl_nil ?_
    refine hq_then ?_
    refine hc_ret ?_
    exact hq_ret1 (()) rfl (rv_arr 0 rfl T81 rfl (ns_len _ _).symm) (by rw [ns_full (by omega)]) (fun _ h => Mm.pick h [] (by simp))

theorem r11_Mix_ct (s : Nat → UInt8) (w : World) : Ct0 Tryd.prog 110 #[.agg (ns vb 16 s).toArray] w (.agg (ns vb 16 (mixR s)).toArray) := by
  refine ct0_of Tryd.func110 rfl Tryd.ntmps110 rfl ?_
  refine hc_seq ?_
  refine hc_region ?_
  refine hl_i rfl rfl rfl (e_boxa rfl rfl) ?_; intro g1
  refine hl_i rfl rfl rfl (e_alloc rfl Z81) ?_; intro g2
  refine hl_nil ?_
  refine hq_then ?_
  refine hc_seq ?_
  refine hc_region ?_
  refine hl_i rfl rfl rfl (e_alloc rfl Z81) ?_; intro g3
  refine hl_nil ?_
  refine hq_then ?_
  refine hc_seq ?_
  refine hc_seq ?_
  refine hc_region ?_
  refine hl_y rfl rfl rfl (y_assign (v := vi 0) rfl rfl) ?_
  refine hl_nil ?_
  refine hq_then ?_
  refine hc_block ?_
  refine hc_loop (fun c => c ≤ 4) (fun c => 4 - c) (fun c => [(1, .pointer (some ⟨g1, 0, none⟩)), (2, .pointer (some ⟨g2, 0, none⟩)), (3, .pointer (some ⟨g3, 0, none⟩)), (4, vi c)]) (fun c => Mm w [.blk g3 81 (ns vb 16 (fun i => if i < 4 * c then mixR s i else 0)), .blk g2 81 (ns vb 16 (fun _ => 0)), .blk g1 81 (ns vb 16 (s))]) (0) (by omega) ⟨rfl, rfl, rfl, lk_int rfl (by omega), trivial⟩ (fun _ h => Mm.mm h (by simp)) ?_
  intro c hk
  refine hc_seq ?_
  refine hc_seq ?_
  refine hc_region ?_
  refine hl_y rfl rfl rfl (y_move rfl rfl) ?_
  refine hl_y rfl rfl rfl (y_lssn (q := 4) rfl rfl rfl ) ?_
  refine hl_nil ?_
  refine hq_then ?_
  refine hc_if rfl (fun c0 => ?_) (fun c0 => ?_)
  · replace c0 := of_decide_eq_true c0
    refine hc_skip ?_
    refine hq_then ?_
    refine hc_seq ?_
    refine hc_block ?_
    refine hc_seq ?_
    refine hc_drawP [2] follows_mixed ?_
    refine hh_y 0 rfl rfl rfl rfl (by kernel_rfl) (by kernel_rfl) (by kernel_rfl) (fun _ h => Mm.pick h [2] (by decide)) (y_move rfl rfl) ?_
    refine hh_y 1 rfl rfl rfl rfl (by kernel_rfl) (by kernel_rfl) (by kernel_rfl) (fun _ h => Mm.pick h [2] (by decide)) (y_muln (p := 4) rfl rfl rfl (by omega)) ?_
    refine hh_y 2 rfl rfl rfl rfl (by kernel_rfl) (by kernel_rfl) (by kernel_rfl) (fun _ h => Mm.pick h [2] (by decide)) (y_ixa1 rfl T81 O5 rfl rfl (by omega)) ?_
    refine hh_y 3 rfl rfl rfl rfl (by kernel_rfl) (by kernel_rfl) (by kernel_rfl) (fun _ h => Mm.pick h [2] (by decide)) (y_ldn 0 rfl O5 rfl rfl (by omega)) ?_
    refine hh_y 4 rfl rfl rfl rfl (by kernel_rfl) (by kernel_rfl) (by kernel_rfl) (fun _ h => Mm.pick h [2] (by decide)) (y_move rfl rfl) ?_
    refine hh_y 5 rfl rfl rfl rfl (by kernel_rfl) (by kernel_rfl) (by kernel_rfl) (fun _ h => Mm.pick h [2] (by decide)) (y_muln (p := 4) rfl rfl rfl (by omega)) ?_
    refine hh_y 6 rfl rfl rfl rfl (by kernel_rfl) (by kernel_rfl) (by kernel_rfl) (fun _ h => Mm.pick h [2] (by decide)) (y_addn (q := 1) rfl rfl rfl (by omega)) ?_
    refine hh_y 7 rfl rfl rfl rfl (by kernel_rfl) (by kernel_rfl) (by kernel_rfl) (fun _ h => Mm.pick h [2] (by decide)) (y_ixa1 rfl T81 O5 rfl rfl (by omega)) ?_
    refine hh_y 8 rfl rfl rfl rfl (by kernel_rfl) (by kernel_rfl) (by kernel_rfl) (fun _ h => Mm.pick h [2] (by decide)) (y_ldn 0 rfl O5 rfl rfl (by omega)) ?_
    refine hh_y 9 rfl rfl rfl rfl (by kernel_rfl) (by kernel_rfl) (by kernel_rfl) (fun _ h => Mm.pick h [2] (by decide)) (y_move rfl rfl) ?_
    refine hh_y 10 rfl rfl rfl rfl (by kernel_rfl) (by kernel_rfl) (by kernel_rfl) (fun _ h => Mm.pick h [2] (by decide)) (y_muln (p := 4) rfl rfl rfl (by omega)) ?_
    refine hh_y 11 rfl rfl rfl rfl (by kernel_rfl) (by kernel_rfl) (by kernel_rfl) (fun _ h => Mm.pick h [2] (by decide)) (y_addn (q := 2) rfl rfl rfl (by omega)) ?_
    refine hh_y 12 rfl rfl rfl rfl (by kernel_rfl) (by kernel_rfl) (by kernel_rfl) (fun _ h => Mm.pick h [2] (by decide)) (y_ixa1 rfl T81 O5 rfl rfl (by omega)) ?_
    refine hh_y 13 rfl rfl rfl rfl (by kernel_rfl) (by kernel_rfl) (by kernel_rfl) (fun _ h => Mm.pick h [2] (by decide)) (y_ldn 0 rfl O5 rfl rfl (by omega)) ?_
    refine hh_y 14 rfl rfl rfl rfl (by kernel_rfl) (by kernel_rfl) (by kernel_rfl) (fun _ h => Mm.pick h [2] (by decide)) (y_move rfl rfl) ?_
    refine hh_y 15 rfl rfl rfl rfl (by kernel_rfl) (by kernel_rfl) (by kernel_rfl) (fun _ h => Mm.pick h [2] (by decide)) (y_muln (p := 4) rfl rfl rfl (by omega)) ?_
    refine hh_y 16 rfl rfl rfl rfl (by kernel_rfl) (by kernel_rfl) (by kernel_rfl) (fun _ h => Mm.pick h [2] (by decide)) (y_addn (q := 3) rfl rfl rfl (by omega)) ?_
    refine hh_y 17 rfl rfl rfl rfl (by kernel_rfl) (by kernel_rfl) (by kernel_rfl) (fun _ h => Mm.pick h [2] (by decide)) (y_ixa1 rfl T81 O5 rfl rfl (by omega)) ?_
    refine hh_y 18 rfl rfl rfl rfl (by kernel_rfl) (by kernel_rfl) (by kernel_rfl) (fun _ h => Mm.pick h [2] (by decide)) (y_ldn 0 rfl O5 rfl rfl (by omega)) ?_
    refine hh_y 19 rfl rfl rfl rfl (by kernel_rfl) (by kernel_rfl) (by kernel_rfl) (fun _ h => Mm.pick h [2] (by decide)) (y_bu4 (fun j => s (4 * c + j)) rfl T99 O5 Z99 rfl rfl rfl rfl) ?_
    refine hh_pair 20 21 (.inl (by kernel_rfl)) (by kernel_rfl) (by kernel_rfl) rfl rfl rfl rfl rfl rfl rfl rfl rfl rfl (e_alloc rfl Z99) (e_call0 rfl F118 rfl (fun w hw => r10_Column_ct _ w) rfl) (by intro _; exact e_call0 rfl F118 rfl (fun w hw => r10_Column_ct _ w) rfl) (fun _ h => Mm.pick h [2] (by decide)) (fun _ _ h => Mm.pick h [3] (by decide)) rfl rfl ?_; intro g5
    refine hh_i0 22 rfl rfl rfl (by kernel_rfl) (e_stw 0 rfl T99.2 rfl rfl rfl (ns_oneb _ _)) (fun _ _ h => Mm.pick_set h [3] (by decide) (by decide)) ?_; intro _
    refine hh_done (by kernel_rfl) ?_
    refine hq_then ?_
    refine hc_seq ?_
    refine hc_region ?_
    refine hl_y rfl rfl rfl (y_assign (v := vi 0) rfl rfl) ?_
    refine hl_nil ?_
    refine hq_then ?_
    refine hc_block ?_
    refine hc_loop (fun r => r ≤ 4) (fun r => 4 - r) (fun r => [(1, .pointer (some ⟨g1, 0, none⟩)), (2, .pointer (some ⟨g2, 0, none⟩)), (3, .pointer (some ⟨g3, 0, none⟩)), (5, .pointer (some ⟨g5, 0, none⟩)), (4, vi c), (6, vi r)]) (fun r => Mm w [.blk g5 99 (ns vb 4 (colR (fun j => s (4 * c + j)))), .blk g3 81 (ns vb 16 (fun i => if i < 4 * c + r then mixR s i else 0)), .blk g2 81 (ns vb 16 (fun _ => 0)), .blk g1 81 (ns vb 16 (s))]) (0) (by omega) ⟨rfl, rfl, rfl, rfl, lk_int rfl (by omega), lk_int rfl (by omega), trivial⟩ (fun _ h => h) ?_
    intro r hr
    refine hc_seq ?_
    refine hc_seq ?_
    refine hc_region ?_
    refine hl_y rfl rfl rfl (y_move rfl rfl) ?_
    refine hl_y rfl rfl rfl (y_lssn (q := 4) rfl rfl rfl ) ?_
    refine hl_nil ?_
    refine hq_then ?_
    refine hc_if rfl (fun c1 => ?_) (fun c1 => ?_)
    · replace c1 := of_decide_eq_true c1
      refine hc_skip ?_
      refine hq_then ?_
      refine hc_seq ?_
      refine hc_block ?_
      refine hc_region ?_
      refine hl_y rfl rfl rfl (y_move rfl rfl) ?_
      refine hl_y rfl rfl rfl (y_muln (p := 4) rfl rfl rfl (by omega)) ?_
      refine hl_y rfl rfl rfl (y_move rfl rfl) ?_
      refine hl_y rfl rfl rfl (y_addn rfl rfl rfl (by omega)) ?_
      refine hl_y rfl rfl rfl (y_move rfl rfl) ?_
      refine hl_y rfl rfl rfl (y_ixa1 rfl T99 O5 rfl rfl (by omega)) ?_
      refine hl_y rfl rfl rfl (y_ldn 0 rfl O5 rfl rfl (by omega)) ?_
      refine hl_y rfl rfl rfl (y_ixa1 rfl T81 O5 rfl rfl (by omega)) ?_
      refine hl_i0 rfl rfl (e_stn 1 rfl O5.2 rfl rfl rfl rfl (by omega)) ?_; intro _
      refine hl_nil ?_
      refine hq_in (hq_then ?_)
      refine hc_region ?_
      refine hl_y rfl rfl rfl (y_move rfl rfl) ?_
      refine hl_y rfl rfl rfl (y_addn (q := 1) rfl rfl rfl (by omega)) ?_
      refine hl_y rfl rfl rfl (y_assign rfl rfl) ?_
      refine hl_nil ?_
      exact hq_round (r + 1) (by omega) (by omega) ⟨rfl, rfl, rfl, rfl, lk_int rfl (by omega), lk_int rfl (by omega), trivial⟩ (fun _ h => Mm.set h 1 rfl (ns_step (f := mixR s) (g := fun _ => 0) (by rw [mixR, show (4 * c + r) / 4 = c from by omega, show (4 * c + r) % 4 = r from by omega])))
    · replace c1 := of_decide_eq_false c1
      refine hc_exit ?_
      refine hq_then_exit (hq_loop_exit (hq_in_same (hq_in (hq_then ?_))))
      refine hc_region ?_
      refine hl_y rfl rfl rfl (y_move rfl rfl) ?_
      refine hl_y rfl rfl rfl (y_addn (q := 1) rfl rfl rfl (by omega)) ?_
      refine hl_y rfl rfl rfl (y_assign rfl rfl) ?_
      refine hl_nil ?_
      exact hq_round (c + 1) (by omega) (by omega) ⟨rfl, rfl, rfl, lk_int rfl (by omega), trivial⟩ (fun _ h => (Mm.pick h [1, 2, 3] (by decide)).set 0 rfl (by rw [show 4 * c + r = 4 * (c + 1) from by omega]))
  · replace c0 := of_decide_eq_false c0
    refine hc_exit ?_
    refine hq_then_exit (hq_loop_exit (hq_in_same (hq_then ?_)))
    refine hc_seq ?_
    refine hc_region ?_
    refine hl_y rfl rfl rfl (y_ldw 0 rfl T81 rfl rfl) ?_
    refine hl_i0 rfl rfl (e_stw 1 rfl T81.2 rfl rfl rfl (ns_oneb _ _)) ?_; intro _
    refine hl_nil ?_
    refine hq_then ?_
    refine hc_ret ?_
    exact hq_ret1 (()) rfl (rv_arr 1 rfl T81 rfl (ns_len _ _).symm) (by rw [ns_full (by omega)]) (fun _ h => Mm.pick h [] (by simp))

theorem aes_Add_ct (s k : Nat → UInt8) (w : World) : Ct0 Tryd.prog 102 #[.agg (ns vb 16 s).toArray, .agg (ns vb 16 k).toArray] w (.agg (ns vb 16 (addF s k)).toArray) := by
  refine ct0_of Tryd.func102 rfl Tryd.ntmps102 rfl ?_
  refine hc_seq ?_
  refine hc_region ?_
  refine hl_i rfl rfl rfl (e_boxa rfl rfl) ?_; intro g2
  refine hl_i rfl rfl rfl (e_boxa rfl rfl) ?_; intro g3
  refine hl_i rfl rfl rfl (e_alloc rfl Z81) ?_; intro g4
  refine hl_nil ?_
  refine hq_then ?_
  refine hc_seq ?_
  refine hc_seq ?_
  refine hc_region ?_
  refine hl_y rfl rfl rfl (y_ldw 1 rfl T81 rfl rfl) ?_
  refine hl_y rfl rfl rfl (y_move (v := vi 0) rfl rfl) ?_
  refine hl_nil ?_
  refine hq_then ?_
  refine hc_block ?_
  refine hc_loop (fun j => j ≤ 16) (fun j => 16 - j) (fun j => [(2, .pointer (some ⟨g2, 0, none⟩)), (3, .pointer (some ⟨g3, 0, none⟩)), (4, .pointer (some ⟨g4, 0, none⟩)), (8, vi j), (7, .agg (ns vb 16 k).toArray)]) (fun j => Mm w [.blk g4 81 (ns vb 16 (fun _ => 0)), .blk g3 81 (ns vb 16 (k)), .blk g2 81 (ns vb 16 (fun i => if i < j then addF s k i else s i))]) (0) (by omega) ⟨rfl, rfl, rfl, lk_int rfl (by omega), rfl, trivial⟩ (fun _ h => Mm.mm h (by simp)) ?_
  intro j hk
  refine hc_seq ?_
  refine hc_region ?_
  refine hl_y rfl rfl rfl (y_lssn (q := 16) rfl rfl rfl ) ?_
  refine hl_nil ?_
  refine hq_then ?_
  refine hc_seq ?_
  refine hc_if rfl (fun c0 => ?_) (fun c0 => ?_)
  · replace c0 := of_decide_eq_true c0
    refine hc_skip ?_
    refine hq_then ?_
    refine hc_seq ?_
    refine hc_block ?_
    refine hc_seq ?_
    refine hc_region ?_
    refine hl_y rfl rfl rfl (y_move rfl rfl) ?_
    refine hl_y rfl rfl rfl (y_ixn rfl T81 O5 rfl rfl (by omega) (by omega)) ?_
    refine hl_y rfl rfl rfl (y_assign rfl rfl) ?_
    refine hl_y rfl rfl rfl (y_assign rfl rfl) ?_
    refine hl_nil ?_
    refine hq_then ?_
    refine hc_region ?_
    refine hl_y rfl rfl rfl (y_move rfl rfl) ?_
    refine hl_y rfl rfl rfl (y_ixa1 rfl T81 O5 rfl rfl (by omega)) ?_
    refine hl_y rfl rfl rfl (y_ldn 2 rfl O5 rfl rfl (by omega)) ?_
    refine hl_y rfl rfl rfl (y_move rfl rfl) ?_
    refine hl_y rfl rfl rfl (y_xorb rfl rfl rfl) ?_
    refine hl_y rfl rfl rfl (y_ixa1 rfl T81 O5 rfl rfl (by omega)) ?_
    refine hl_i0 rfl rfl (e_stn 2 rfl O5.2 rfl rfl rfl rfl (by omega)) ?_; intro _
    refine hl_nil ?_
    refine hq_in (hq_then ?_)
    refine hc_region ?_
    refine hl_y rfl rfl rfl (y_addn (q := 1) rfl rfl rfl (by omega)) ?_
    refine hl_y rfl rfl rfl (y_move rfl rfl) ?_
    refine hl_nil ?_
    exact hq_round (j + 1) (by omega) (by omega) ⟨rfl, rfl, rfl, lk_int rfl (by omega), rfl, trivial⟩ (fun _ h => Mm.set h 2 rfl (ns_step (f := addF s k) (g := s) (by simp [addF])))
  · replace c0 := of_decide_eq_false c0
    refine hc_exit ?_
    refine hq_then_exit (hq_loop_exit (hq_in_same (hq_then ?_)))
    refine hc_seq ?_
    refine hc_region ?_
    refine hl_y rfl rfl rfl (y_ldw 2 rfl T81 rfl rfl) ?_
    refine hl_i0 rfl rfl (e_stw 0 rfl T81.2 rfl rfl rfl (ns_oneb _ _)) ?_; intro _
    refine hl_nil ?_
    refine hq_then ?_
    refine hc_ret ?_
    exact hq_ret1 (()) rfl (rv_arr 0 rfl T81 rfl (ns_len _ _).symm) (by rw [ns_full (by omega)]) (fun _ h => Mm.pick h [] (by simp))

theorem r11_Add_ct (s k : Nat → UInt8) (w : World) : Ct0 Tryd.prog 107 #[.agg (ns vb 16 s).toArray, .agg (ns vb 16 k).toArray] w (.agg (ns vb 16 (addF s k)).toArray) := by
  refine ct0_of Tryd.func107 rfl Tryd.ntmps107 rfl ?_
  refine hc_seq ?_
  refine hc_region ?_
  refine hl_i rfl rfl rfl (e_boxa rfl rfl) ?_; intro g2
  refine hl_i rfl rfl rfl (e_boxa rfl rfl) ?_; intro g3
  refine hl_i rfl rfl rfl (e_alloc rfl Z81) ?_; intro g4
  refine hl_nil ?_
  refine hq_then ?_
  refine hc_seq ?_
  refine hc_seq ?_
  refine hc_region ?_
  refine hl_y rfl rfl rfl (y_assign (v := vi 0) rfl rfl) ?_
  refine hl_nil ?_
  refine hq_then ?_
  refine hc_block ?_
  refine hc_loop (fun j => j ≤ 16) (fun j => 16 - j) (fun j => [(2, .pointer (some ⟨g2, 0, none⟩)), (3, .pointer (some ⟨g3, 0, none⟩)), (4, .pointer (some ⟨g4, 0, none⟩)), (5, vi j)]) (fun j => Mm w [.blk g4 81 (ns vb 16 (fun _ => 0)), .blk g3 81 (ns vb 16 (k)), .blk g2 81 (ns vb 16 (fun i => if i < j then addF s k i else s i))]) (0) (by omega) ⟨rfl, rfl, rfl, lk_int rfl (by omega), trivial⟩ (fun _ h => Mm.mm h (by simp)) ?_
  intro j hk
  refine hc_seq ?_
  refine hc_seq ?_
  refine hc_region ?_
  refine hl_y rfl rfl rfl (y_move rfl rfl) ?_
  refine hl_y rfl rfl rfl (y_lssn (q := 16) rfl rfl rfl ) ?_
  refine hl_nil ?_
  refine hq_then ?_
  refine hc_if rfl (fun c0 => ?_) (fun c0 => ?_)
  · replace c0 := of_decide_eq_true c0
    refine hc_skip ?_
    refine hq_then ?_
    refine hc_seq ?_
    refine hc_block ?_
    refine hc_drawP [1] follows_mixed ?_
    refine hh_y 0 rfl rfl rfl rfl (by kernel_rfl) (by kernel_rfl) (by kernel_rfl) (fun _ h => Mm.pick h [1] (by decide)) (y_move rfl rfl) ?_
    refine hh_y 1 rfl rfl rfl rfl (by kernel_rfl) (by kernel_rfl) (by kernel_rfl) (fun _ h => Mm.pick h [1] (by decide)) (y_move rfl rfl) ?_
    refine hh_y 2 rfl rfl rfl rfl (by kernel_rfl) (by kernel_rfl) (by kernel_rfl) (fun _ h => Mm.pick h [1] (by decide)) (y_ixa1 rfl T81 O5 rfl rfl (by omega)) ?_
    refine hh_y 4 rfl rfl rfl rfl (by kernel_rfl) (by kernel_rfl) (by kernel_rfl) (fun _ h => Mm.pick h [1] (by decide)) (y_move rfl rfl) ?_
    refine hh_y 5 rfl rfl rfl rfl (by kernel_rfl) (by kernel_rfl) (by kernel_rfl) (fun _ h => Mm.pick h [1] (by decide)) (y_ixa1 rfl T81 O5 rfl rfl (by omega)) ?_
    refine hh_y 6 rfl rfl rfl rfl (by kernel_rfl) (by kernel_rfl) (by kernel_rfl) (fun _ h => Mm.pick h [1] (by decide)) (y_ldn 0 rfl O5 rfl rfl (by omega)) ?_
    refine hh_i 3 rfl rfl rfl rfl (by kernel_rfl) (ef_y (y_ldn 2 rfl O5 rfl rfl (by omega))) (fun _ _ h => Mm.pick h [1] (by decide)) ?_; intro _
    refine hh_y 7 rfl rfl rfl rfl (by kernel_rfl) (by kernel_rfl) (by kernel_rfl) (fun _ h => Mm.pick h [1] (by decide)) (y_xorb rfl rfl rfl) ?_
    refine hh_y 8 rfl rfl rfl rfl (by kernel_rfl) (by kernel_rfl) (by kernel_rfl) (fun _ h => Mm.pick h [1] (by decide)) (y_ixa1 rfl T81 O5 rfl rfl (by omega)) ?_
    refine hh_i0 9 rfl rfl rfl (by kernel_rfl) (e_stn 2 rfl O5.2 rfl rfl rfl rfl (by omega)) (fun _ _ h => Mm.pick_set h [1] (by decide) (by decide)) ?_; intro _
    refine hh_done (by kernel_rfl) ?_
    refine hq_in (hq_then ?_)
    refine hc_region ?_
    refine hl_y rfl rfl rfl (y_move rfl rfl) ?_
    refine hl_y rfl rfl rfl (y_addn (q := 1) rfl rfl rfl (by omega)) ?_
    refine hl_y rfl rfl rfl (y_assign rfl rfl) ?_
    refine hl_nil ?_
    exact hq_round (j + 1) (by omega) (by omega) ⟨rfl, rfl, rfl, lk_int rfl (by omega), trivial⟩ (fun _ h => Mm.set h 2 rfl (ns_step (f := addF s k) (g := s) (by simp [addF])))
  · replace c0 := of_decide_eq_false c0
    refine hc_exit ?_
    refine hq_then_exit (hq_loop_exit (hq_in_same (hq_then ?_)))
    refine hc_seq ?_
    refine hc_region ?_
    refine hl_y rfl rfl rfl (y_ldw 2 rfl T81 rfl rfl) ?_
    refine hl_i0 rfl rfl (e_stw 0 rfl T81.2 rfl rfl rfl (ns_oneb _ _)) ?_; intro _
    refine hl_nil ?_
    refine hq_then ?_
    refine hc_ret ?_
    exact hq_ret1 (()) rfl (rv_arr 0 rfl T81 rfl (ns_len _ _).symm) (by rw [ns_full (by omega)]) (fun _ h => Mm.pick h [] (by simp))

end Go.Proofs.YtcdidapkpfnphaaDoor
