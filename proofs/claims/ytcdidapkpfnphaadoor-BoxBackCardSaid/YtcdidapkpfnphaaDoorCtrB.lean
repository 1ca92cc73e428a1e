/- Streams: what each call gives back. -/
import Derived.Test.YtcdidapkpfnphaaDoorCtrA
namespace Go.Proofs.YtcdidapkpfnphaaDoor
open Go.RowKit
set_option linter.unusedVariables false
set_option linter.unusedSimpArgs false
set_option maxRecDepth 100000
theorem same_ext {la lb : List UInt8} (hl : la.length = lb.length) (h : ∀ j, j < la.length → la.getD j 0 = lb.getD j 0) : la = lb := by
  apply List.ext_getElem hl
  intro j h1 h2
  have h3 := h j h1
  simpa [List.getD_eq_getElem?_getD, h1, h2] using h3
theorem r01_Same_ct (la lb : List UInt8) (av bv : Value)  (w : World) (ha : Rd w av (ls vb la)) (hb : Rd w bv (ls vb lb)) (hm : la.length ≤ 9223372036854775807) : Ct0 Tryd.prog 19 #[av, bv] w (.bool (decide (la = lb))) := by
  refine ct0_of Tryd.func19 rfl Tryd.ntmps19 rfl ?_
  refine hc_seq ?_
  refine hc_region ?_
  refine hl_y rfl rfl rfl (y_assign rfl rfl) ?_
  refine hl_nil ?_
  refine hq_then ?_
  refine hc_seq ?_
  refine hc_seq ?_
  refine hc_region ?_
  refine hl_y rfl rfl rfl (y_move rfl rfl) ?_
  refine hl_y rfl rfl rfl (y_lenE (la.length) rfl rfl S22 rfl (rdF ha) (by first | rfl | simp only [ls_len, ns_len] | (simp only [ls_len, ns_len]; omega))) ?_
  refine hl_y rfl rfl rfl (y_move rfl rfl) ?_
  refine hl_y rfl rfl rfl (y_lenE (lb.length) rfl rfl S22 rfl (rdF hb) (by first | rfl | simp only [ls_len, ns_len] | (simp only [ls_len, ns_len]; omega))) ?_
  refine hl_y rfl rfl rfl (y_neqn rfl rfl rfl ) ?_
  refine hl_nil ?_
  refine hq_then ?_
  refine hc_if rfl (fun c0 => ?_) (fun c0 => ?_)
  · replace c0 := of_decide_eq_true c0
    refine hc_seq ?_
    refine hc_region ?_
    refine hl_y rfl rfl rfl (y_assign rfl rfl) ?_
    refine hl_nil ?_
    refine hq_then ?_
    refine hc_ret ?_
    exact hq_then_ret (hq_ret1 (()) rfl (rv_tmp rfl) (congrArg Value.bool (decide_eq_false (fun e => c0 (by rw [e]))).symm) (fun _ h => Mm.pick h [] (by simp)))
  · replace c0 := of_decide_eq_false c0
    refine hc_skip ?_
    refine hq_then ?_
    refine hc_seq ?_
    refine hc_seq ?_
    refine hc_region ?_
    refine hl_y rfl rfl rfl (y_assign (v := vi 0) rfl rfl) ?_
    refine hl_nil ?_
    refine hq_then ?_
    refine hc_block ?_
    refine hc_loop (fun k => k ≤ la.length ∧ ∀ j, j < k → la.getD j 0 = lb.getD j 0) (fun k => la.length - k) (fun k => [(0, av), (1, bv), (5, vi k)]) (fun k => Mm w []) (0) ⟨by omega, fun j hj => by omega⟩ ⟨rfl, rfl, lk_int rfl (by omega), trivial⟩ (fun _ h => h) ?_
    intro k hk
    obtain ⟨hk, hj⟩ := hk
    refine hc_seq ?_
    refine hc_seq ?_
    refine hc_region ?_
    refine hl_y rfl rfl rfl (y_move rfl rfl) ?_
    refine hl_y rfl rfl rfl (y_move rfl rfl) ?_
    refine hl_y rfl rfl rfl (y_lenE (la.length) rfl rfl S22 rfl (rdF ha) (by first | rfl | simp only [ls_len, ns_len] | (simp only [ls_len, ns_len]; omega))) ?_
    refine hl_y rfl rfl rfl (y_lssn rfl rfl rfl ) ?_
    refine hl_nil ?_
    refine hq_then ?_
    refine hc_if rfl (fun c1 => ?_) (fun c1 => ?_)
    · replace c1 := of_decide_eq_true c1
      refine hc_skip ?_
      refine hq_then ?_
      refine hc_seq ?_
      refine hc_block ?_
      refine hc_seq ?_
      refine hc_drawP [] follows_mixed ?_
      refine hh_y 0 rfl rfl rfl rfl (by kernel_rfl) (by kernel_rfl) (by kernel_rfl) (fun _ h => Mm.pick h [] (by decide)) (y_move rfl rfl) ?_
      refine hh_y 1 rfl rfl rfl rfl (by kernel_rfl) (by kernel_rfl) (by kernel_rfl) (fun _ h => Mm.pick h [] (by decide)) (y_move rfl rfl) ?_
      refine hh_y 2 rfl rfl rfl rfl (by kernel_rfl) (by kernel_rfl) (by kernel_rfl) (fun _ h => Mm.pick h [] (by decide)) (y_ixs rfl S22 rfl (rdF ha) rfl (by first | omega | (simp only [ls_len, ns_len]; omega) | (simp only [List.length_take, List.length_drop, ls_len, ns_len]; omega))) ?_
      refine hh_y 3 rfl rfl rfl rfl (by kernel_rfl) (by kernel_rfl) (by kernel_rfl) (fun _ h => Mm.pick h [] (by decide)) (y_ldb rfl O5 rfl (rdF ha) (by omega)) ?_
      refine hh_y 4 rfl rfl rfl rfl (by kernel_rfl) (by kernel_rfl) (by kernel_rfl) (fun _ h => Mm.pick h [] (by decide)) (y_move rfl rfl) ?_
      refine hh_y 5 rfl rfl rfl rfl (by kernel_rfl) (by kernel_rfl) (by kernel_rfl) (fun _ h => Mm.pick h [] (by decide)) (y_move rfl rfl) ?_
      refine hh_y 6 rfl rfl rfl rfl (by kernel_rfl) (by kernel_rfl) (by kernel_rfl) (fun _ h => Mm.pick h [] (by decide)) (y_ixs rfl S22 rfl (rdF hb) rfl (by first | omega | (simp only [ls_len, ns_len]; omega) | (simp only [List.length_take, List.length_drop, ls_len, ns_len]; omega))) ?_
      refine hh_y 7 rfl rfl rfl rfl (by kernel_rfl) (by kernel_rfl) (by kernel_rfl) (fun _ h => Mm.pick h [] (by decide)) (y_ldb rfl O5 rfl (rdF hb) (by omega)) ?_
      refine hh_y 8 rfl rfl rfl rfl (by kernel_rfl) (by kernel_rfl) (by kernel_rfl) (fun _ h => Mm.pick h [] (by decide)) (y_neqb rfl rfl rfl) ?_
      refine hh_done (by kernel_rfl) ?_
      refine hq_then ?_
      refine hc_if rfl (fun c2 => ?_) (fun c2 => ?_)
      · replace c2 := of_decide_eq_true c2
        refine hc_seq ?_
        refine hc_region ?_
        refine hl_y rfl rfl rfl (y_assign rfl rfl) ?_
        refine hl_nil ?_
        refine hq_then ?_
        refine hc_ret ?_
        exact hq_in_ret (hq_then_ret (hq_loop_ret (hq_in_ret (hq_then_ret (hq_ret1 (()) rfl (rv_tmp rfl) (congrArg Value.bool (decide_eq_false (fun e => c2 (by rw [e]))).symm) (fun _ h => Mm.pick h [] (by simp)))))))
      · replace c2 := of_decide_eq_false c2
        replace c2 := Decidable.not_not.1 c2
        refine hc_skip ?_
        refine hq_in (hq_then ?_)
        refine hc_region ?_
        refine hl_y rfl rfl rfl (y_move rfl rfl) ?_
        refine hl_y rfl rfl rfl (y_addn (q := 1) rfl rfl rfl (by omega)) ?_
        refine hl_y rfl rfl rfl (y_assign rfl rfl) ?_
        refine hl_nil ?_
        exact hq_round (k + 1) (by omega) ⟨by omega, fun j hj2 => by rcases Nat.lt_or_ge j k with h | h; exact hj j h; exact (show j = k from by omega) ▸ c2⟩ ⟨rfl, rfl, lk_int rfl (by omega), trivial⟩ (fun _ h => h)
    · replace c1 := of_decide_eq_false c1
      refine hc_exit ?_
      refine hq_then_exit (hq_loop_exit (hq_in_same (hq_then ?_)))
      refine hc_seq ?_
      refine hc_region ?_
      refine hl_y rfl rfl rfl (y_assign rfl rfl) ?_
      refine hl_nil ?_
      refine hq_then ?_
      refine hc_ret ?_
      exact hq_ret1 (()) rfl (rv_tmp rfl) (congrArg Value.bool (decide_eq_true (same_ext (by omega) (fun j h => hj j (by omega)))).symm) (fun _ h => Mm.pick h [] (by simp))

theorem r01_Same_t (la lb : List UInt8) (av bv : Value)  (w : World) (ha : Rd w av (ls vb la)) (hb : Rd w bv (ls vb lb)) (hm : la.length ≤ 9223372036854775807) (e : la = lb) : Ct0 Tryd.prog 19 #[av, bv] w (.bool true) := by
  have h := r01_Same_ct la lb av bv w ha hb hm
  rwa [decide_eq_true e] at h
theorem ctr_next_ct (k c : Nat → UInt8) (A : Own) (g8 g9 : Nat) (w0 w : World) (hm : Mm w0 [A, .blk g9 81 (ns vb 16 (c)), .blk g8 83 (ns vb 240 k)] w) : CtM Tryd.prog 92 #[.pointer (some ⟨g8, 0, none⟩), .pointer (some ⟨g9, 0, none⟩)] w (fun y : Nat => .slice (some ⟨y, 0, none⟩) 16 16) (fun y => Mm w0 [.blk y 81 (ns vb 16 (encF k c)), A, .blk g9 81 (ns vb 16 (addC c 1)), .blk g8 83 (ns vb 240 k)]) := by
  refine ctM_of Tryd.func92 rfl Tryd.ntmps92 rfl hm ?_
  refine hc_seq ?_
  refine hc_region ?_
  refine hl_y rfl rfl rfl (y_assign rfl rfl) ?_
  refine hl_nil ?_
  refine hq_then ?_
  refine hc_seq ?_
  refine hc_region ?_
  refine hl_y rfl rfl rfl (y_ldw 2 rfl T83 rfl rfl) ?_
  refine hl_y rfl rfl rfl (y_ldw 1 rfl T81 rfl rfl) ?_
  refine hl_i rfl rfl rfl (e_call0 rfl F93 rfl (fun w hw => aes_Encrypt_ct _ _ w) rfl) ?_; intro _
  refine hl_i rfl rfl rfl (e_alloc rfl Z81) ?_; intro g3
  refine hl_i0 rfl rfl (e_stw 0 rfl T81.2 rfl rfl rfl (ns_oneb _ _)) ?_; intro _
  refine hl_nil ?_
  refine hq_then ?_
  refine hc_seq ?_
  refine hc_region ?_
  refine hl_y rfl rfl rfl (y_ldw 2 rfl T81 rfl rfl) ?_
  refine hl_i rfl rfl rfl (e_call0 rfl F94 rfl (fun w hw => ctr_Next_ct _ w) rfl) ?_; intro _
  refine hl_i0 rfl rfl (e_stw 2 rfl T81.2 rfl rfl rfl (ns_oneb _ _)) ?_; intro _
  refine hl_nil ?_
  refine hq_then ?_
  refine hc_seq ?_
  refine hc_region ?_
  refine hl_y rfl rfl rfl (y_slcaw rfl T81 O5 rfl (by omega)) ?_
  refine hl_y rfl rfl rfl (y_assign rfl rfl) ?_
  refine hl_nil ?_
  refine hq_then ?_
  refine hc_ret ?_
  exact hq_ret1 (g3) rfl (rv_tmp rfl) rfl (fun _ h => h)

theorem ctr_Stream_ct (kl nl : List UInt8) (kv nv : Value) (n : Nat) (hb : n ≤ 9223372036854775807) (w : World) (hk : Rd w kv (ls vb kl)) (hn : Rd w nv (ls vb nl)) : Ct Tryd.prog 80 #[kv, nv, vi n] w (fun v : Value => .tuple #[slc3 v 0 (strN kl nl n) (strN kl nl n), vi (strF kl nl n)]) (fun v => [.row 5 v (ls vb (strA kl nl n))]) := by
  refine ct_of Tryd.func80 rfl Tryd.ntmps80 rfl ?_
  refine hc_seq ?_
  refine hc_region ?_
  refine hl_y rfl rfl rfl (y_assign rfl rfl) ?_
  refine hl_y rfl rfl rfl (y_assign (v := vi 0) rfl rfl) ?_
  refine hl_nil ?_
  refine hq_then ?_
  refine hc_seq ?_
  refine hc_region ?_
  refine hl_y rfl rfl rfl (y_move rfl rfl) ?_
  refine hl_y rfl rfl rfl (y_move rfl rfl) ?_
  refine hl_i rfl rfl rfl (e_call0 rfl F91 rfl (fun w hw => ctr_begun_ct _ _ _ _ w ((rdF hk) w hw) ((rdF hn) w hw)) rfl) ?_; intro _
  refine hl_y rfl rfl rfl (y_move rfl rfl) ?_
  refine hl_y rfl rfl rfl (y_extract rfl rfl rfl) ?_
  refine hl_y rfl rfl rfl (y_extract rfl rfl rfl) ?_
  refine hl_y rfl rfl rfl (y_extract rfl rfl rfl) ?_
  refine hl_i rfl rfl rfl (e_alloc rfl Z83) ?_; intro g8
  refine hl_i rfl rfl rfl (e_alloc rfl Z81) ?_; intro g9
  refine hl_i0 rfl rfl (e_stw 1 rfl T83.2 rfl rfl rfl (ns_oneb _ _)) ?_; intro _
  refine hl_i0 rfl rfl (e_stw 0 rfl T81.2 rfl rfl rfl (ns_oneb _ _)) ?_; intro _
  refine hl_y rfl rfl rfl (y_assign rfl rfl) ?_
  refine hl_nil ?_
  refine hq_then ?_
  refine hc_seq ?_
  refine hc_block ?_
  refine hc_seq ?_
  refine hc_region ?_
  refine hl_y rfl rfl rfl (y_move rfl rfl) ?_
  refine hl_y rfl rfl rfl (y_neqn (q := 0) rfl rfl rfl ) ?_
  refine hl_y rfl rfl rfl (y_assign rfl rfl) ?_
  refine hl_nil ?_
  refine hq_then ?_
  refine hc_if rfl (fun c0 => ?_) (fun c0 => ?_)
  · replace c0 := of_decide_eq_true c0
    refine hc_seq ?_
    refine hc_region ?_
    refine hl_y rfl rfl rfl (y_move rfl rfl) ?_
    refine hl_y rfl rfl rfl (y_assign rfl rfl) ?_
    refine hl_y rfl rfl rfl (y_assign rfl rfl) ?_
    refine hl_nil ?_
    refine hq_then ?_
    refine hc_ret ?_
    exact hq_in_ret (hq_then_ret (hq_ret2 (.slice none 0 0) rfl (rv_tmp rfl) (rv_tmp rfl) (by rw [strN, show strF kl nl n = begF kl nl from if_neg c0, if_neg (by omega)]; rfl) (fun _ h => (mm_nil 5 _ (Mm.pick h [] (by decide))).mm (by rw [strA, if_neg (by rw [show strF kl nl n = begF kl nl from if_neg c0]; omega)]; rfl))))
  · replace c0 := of_decide_eq_false c0
    refine hc_seq ?_
    refine hc_region ?_
    refine hl_y rfl rfl rfl (y_move rfl rfl) ?_
    refine hl_y rfl rfl rfl (y_as (y_lssn (q := 0) rfl rfl rfl ) (congrArg Value.bool (decide_eq_false (by omega)))) ?_
    refine hl_y rfl rfl rfl (y_move rfl rfl) ?_
    refine hl_yg 2 25 false rfl rfl rfl rfl rfl (y_move rfl rfl) ?_
    refine hl_yg 2 25 false rfl rfl rfl rfl rfl (y_gtrn (q := 65536) rfl rfl rfl ) ?_
    refine hl_y rfl rfl rfl (y_pick (b := false) rfl rfl rfl) ?_
    refine hl_y rfl rfl rfl (y_assign rfl rfl) ?_
    refine hl_nil ?_
    refine hq_then ?_
    refine hc_if rfl (fun c1 => ?_) (fun c1 => ?_)
    · replace c1 := of_decide_eq_true c1
      refine hc_seq ?_
      refine hc_region ?_
      refine hl_y rfl rfl rfl (y_assign rfl rfl) ?_
      refine hl_y rfl rfl rfl (y_assign (v := vi 2) rfl rfl) ?_
      refine hl_nil ?_
      refine hq_then ?_
      refine hc_ret ?_
      exact hq_in_ret (hq_then_ret (hq_ret2 (.slice none 0 0) rfl (rv_tmp rfl) (rv_tmp rfl) (by rw [strN, show strF kl nl n = 2 from by rw [strF, if_pos (by omega), if_neg (by omega)], if_neg (by omega)]; rfl) (fun _ h => (mm_nil 5 _ (Mm.pick h [] (by decide))).mm (by rw [strA, if_neg (by rw [show strF kl nl n = 2 from by rw [strF, if_pos (by omega), if_neg (by omega)]]; omega)]; rfl))))
    · replace c1 := of_decide_eq_false c1
      refine hc_skip ?_
      refine hq_in (hq_then ?_)
      refine hc_seq ?_
      refine hc_region ?_
      refine hl_y rfl rfl rfl (y_func (vs := #[.pointer (some ⟨g8, 0, none⟩), .pointer (some ⟨g9, 0, none⟩)]) rfl rfl) ?_
      refine hl_y rfl rfl rfl (y_assign rfl rfl) ?_
      refine hl_nil ?_
      refine hq_then ?_
      refine hc_seq ?_
      refine hc_block ?_
      refine hc_loop2 (fun m v => m ≤ (n + 15) / 16) (fun m v => (n + 15) / 16 - m) (fun m v => [(2, vi n), (6, v), (8, .pointer (some ⟨g8, 0, none⟩)), (9, .pointer (some ⟨g9, 0, none⟩)), (10, .func (.func 92) #[] #[.pointer (some ⟨g8, 0, none⟩), .pointer (some ⟨g9, 0, none⟩)])]) (fun m v => Mm w [.row 5 v (ls vb (strL (encF (begK kl nl)) (begC nl) m)), .blk g9 81 (ns vb 16 (addC (begC nl) m)), .blk g8 83 (ns vb 240 (begK kl nl))]) (0) (.slice none 0 0) (by omega) ⟨lk_int rfl (by omega), rfl, rfl, rfl, rfl, trivial⟩ (fun _ h => ((mm_nil 5 _ (Mm.pick h [0, 1] (by decide))).set 1 rfl (by rw [addC_zero]))) ?_
      intro m v hmn
      refine hc_seq ?_
      refine hc_seq ?_
      refine hc_region ?_
      refine hl_y rfl rfl rfl (y_move rfl rfl) ?_
      refine hl_y rfl rfl rfl (y_lenE (16 * m) rfl rfl S22 rfl (rdR 0 rfl) (by rw [ls_len, strL_len])) ?_
      refine hl_y rfl rfl rfl (y_move rfl rfl) ?_
      refine hl_y rfl rfl rfl (y_lssn rfl rfl rfl ) ?_
      refine hl_nil ?_
      refine hq_then ?_
      refine hc_if rfl (fun c2 => ?_) (fun c2 => ?_)
      · replace c2 := of_decide_eq_true c2
        refine hc_skip ?_
        refine hq_then ?_
        refine hc_block ?_
        refine hc_region ?_
        refine hl_y rfl rfl rfl (y_move rfl rfl) ?_
        refine hl_y rfl rfl rfl (y_move rfl rfl) ?_
        refine hl_i rfl rfl rfl (e_callM rfl F92 rfl (fun w hw => ctr_next_ct _ _ _ _ _ _ w hw) rfl) ?_; intro y36
        refine hl_i rfl rfl rfl (e_appb 1 rfl A22_5 rfl rfl rfl (rdB 0 rfl (ns_sub0 (by omega)) (ns_len _ _) (by omega)) (ls_ns _ _) (by rw [strL_len]; simp; omega)) ?_; intro y37
        refine hl_y rfl rfl rfl (y_assign rfl rfl) ?_
        refine hl_nil ?_
        refine hq_in (?_)
        exact hq_round2 (m + 1) (y37) (by omega) (by omega) ⟨lk_int rfl (by omega), rfl, rfl, rfl, rfl, trivial⟩ (fun _ h => ((Mm.pick h [1, 2, 3] (by decide)).setr 0 rfl rfl).set 1 rfl (by rw [addC_next]))
      · replace c2 := of_decide_eq_false c2
        refine hc_exit ?_
        refine hq_then_exit (hq_loop_exit2 (hq_in_same (hq_then ?_)))
        refine hc_seq ?_
        refine hc_region ?_
        refine hl_y rfl rfl rfl (y_move rfl rfl) ?_
        refine hl_y rfl rfl rfl (y_move rfl rfl) ?_
        refine hl_y rfl rfl rfl (y_move rfl rfl) ?_
        refine hl_y rfl rfl rfl (y_slc3 rfl S22 rfl (rdR 0 rfl) rfl rfl (by omega) (by rw [ls_len, strL_len]; omega)) ?_
        refine hl_y rfl rfl rfl (y_assign rfl rfl) ?_
        refine hl_y rfl rfl rfl (y_assign (v := vi 0) rfl rfl) ?_
        refine hl_nil ?_
        refine hq_then ?_
        refine hc_ret ?_
        exact hq_ret2 (v) rfl (rv_tmp rfl) (rv_tmp rfl) (by rw [strN, show strF kl nl n = 0 from by rw [strF, if_pos (by omega), if_pos (by omega)], if_pos rfl]) (fun _ h => (Mm.pick h [0] (by decide)).mm (by rw [strA, if_pos (by rw [show strF kl nl n = 0 from by rw [strF, if_pos (by omega), if_pos (by omega)]]), strM, show m = (n + 15) / 16 from by omega]; rfl))

theorem ctr_Stream_neg (kl nl : List UInt8) (kv nv : Value) (n : Int) (hb : -9223372036854775808 ≤ n) (hn0 : n < 0) (w : World) (hk : Rd w kv (ls vb kl)) (hn : Rd w nv (ls vb nl)) : Ct0 Tryd.prog 80 #[kv, nv, .int .i64 n] w (.tuple #[.slice none 0 0, vi (atFn kl nl)]) := by
  refine ct0_of Tryd.func80 rfl Tryd.ntmps80 rfl ?_
  refine hc_seq ?_
  refine hc_region ?_
  refine hl_y rfl rfl rfl (y_assign rfl rfl) ?_
  refine hl_y rfl rfl rfl (y_assign (v := vi 0) rfl rfl) ?_
  refine hl_nil ?_
  refine hq_then ?_
  refine hc_seq ?_
  refine hc_region ?_
  refine hl_y rfl rfl rfl (y_move rfl rfl) ?_
  refine hl_y rfl rfl rfl (y_move rfl rfl) ?_
  refine hl_i rfl rfl rfl (e_call0 rfl F91 rfl (fun w hw => ctr_begun_ct _ _ _ _ w ((rdF hk) w hw) ((rdF hn) w hw)) rfl) ?_; intro _
  refine hl_y rfl rfl rfl (y_move rfl rfl) ?_
  refine hl_y rfl rfl rfl (y_extract rfl rfl rfl) ?_
  refine hl_y rfl rfl rfl (y_extract rfl rfl rfl) ?_
  refine hl_y rfl rfl rfl (y_extract rfl rfl rfl) ?_
  refine hl_i rfl rfl rfl (e_alloc rfl Z83) ?_; intro g8
  refine hl_i rfl rfl rfl (e_alloc rfl Z81) ?_; intro g9
  refine hl_i0 rfl rfl (e_stw 1 rfl T83.2 rfl rfl rfl (ns_oneb _ _)) ?_; intro _
  refine hl_i0 rfl rfl (e_stw 0 rfl T81.2 rfl rfl rfl (ns_oneb _ _)) ?_; intro _
  refine hl_y rfl rfl rfl (y_assign rfl rfl) ?_
  refine hl_nil ?_
  refine hq_then ?_
  refine hc_seq ?_
  refine hc_block ?_
  refine hc_seq ?_
  refine hc_region ?_
  refine hl_y rfl rfl rfl (y_move rfl rfl) ?_
  refine hl_y rfl rfl rfl (y_neqn (q := 0) rfl rfl rfl ) ?_
  refine hl_y rfl rfl rfl (y_assign rfl rfl) ?_
  refine hl_nil ?_
  refine hq_then ?_
  refine hc_if rfl (fun c0 => ?_) (fun c0 => ?_)
  · replace c0 := of_decide_eq_true c0
    refine hc_seq ?_
    refine hc_region ?_
    refine hl_y rfl rfl rfl (y_move rfl rfl) ?_
    refine hl_y rfl rfl rfl (y_assign rfl rfl) ?_
    refine hl_y rfl rfl rfl (y_assign rfl rfl) ?_
    refine hl_nil ?_
    refine hq_then ?_
    refine hc_ret ?_
    exact hq_in_ret (hq_then_ret (hq_ret2 (()) rfl (rv_tmp rfl) (rv_tmp rfl) (by rw [atFn, if_neg (by omega)]; try rfl) (fun _ h => Mm.pick h [] (by simp))))
  · replace c0 := of_decide_eq_false c0
    refine hc_seq ?_
    refine hc_region ?_
    refine hl_y rfl rfl rfl (y_move rfl rfl) ?_
    refine hl_y rfl rfl rfl (y_as (y_lssi (q := 0) rfl rfl rfl ) (congrArg Value.bool (decide_eq_true (by omega)))) ?_
    refine hl_y rfl rfl rfl (y_move rfl rfl) ?_
    refine hl_no 2 25 false true rfl rfl rfl rfl rfl rfl ?_
    refine hl_no 2 25 false true rfl rfl rfl rfl rfl rfl ?_
    refine hl_y rfl rfl rfl (y_pick (b := true) rfl rfl rfl) ?_
    refine hl_y rfl rfl rfl (y_assign rfl rfl) ?_
    refine hl_nil ?_
    refine hq_then ?_
    refine hc_ifT rfl ?_
    refine hc_seq ?_
    refine hc_region ?_
    refine hl_y rfl rfl rfl (y_assign rfl rfl) ?_
    refine hl_y rfl rfl rfl (y_assign (v := vi 2) rfl rfl) ?_
    refine hl_nil ?_
    refine hq_then ?_
    refine hc_ret ?_
    exact hq_in_ret (hq_then_ret (hq_ret2 (()) rfl (rv_tmp rfl) (rv_tmp rfl) (by rw [atFn, if_pos (by omega)]; try rfl) (fun _ h => Mm.pick h [] (by simp))))

theorem r12_Stream_ct (kl nl : List UInt8) (kv nv : Value) (n : Nat) (hb : n ≤ 9223372036854775807) (w : World) (hk : Rd w kv (ls vb kl)) (hn : Rd w nv (ls vb nl)) : Ct Tryd.prog 82 #[kv, nv, vi n] w (fun v : Value => .tuple #[slc v 0 (strNR kl nl n), vi (strFR kl nl n)]) (fun v => [.row 5 v (ls vb (strAR kl nl n))]) := by
  refine ct_of Tryd.func82 rfl Tryd.ntmps82 rfl ?_
  refine hc_seq ?_
  refine hc_region ?_
  refine hl_y rfl rfl rfl (y_assign rfl rfl) ?_
  refine hl_y rfl rfl rfl (y_assign (v := vi 0) rfl rfl) ?_
  refine hl_nil ?_
  refine hq_then ?_
  refine hc_seq ?_
  refine hc_seq ?_
  rcases Decidable.em (okR kl nl) with ok | ok
  · skip
    refine hc_region ?_
    refine hl_y rfl rfl rfl (y_move rfl rfl) ?_
    refine hl_y rfl rfl rfl (y_move rfl rfl) ?_
    refine hl_i rfl rfl rfl (e_call0 rfl F95 rfl (fun w hw => r12_Right_t _ _ _ _ w ((rdF hk) w hw) ((rdF hn) w hw) ok) rfl) ?_; intro _
    refine hl_y rfl rfl rfl (y_not rfl rfl) ?_
    refine hl_nil ?_
    refine hq_then ?_
    refine hc_ifF rfl ?_
    refine hc_skip ?_
    refine hq_then ?_
    refine hc_seq ?_
    refine hc_seq ?_
    refine hc_region ?_
    refine hl_y rfl rfl rfl (y_move rfl rfl) ?_
    refine hl_y rfl rfl rfl (y_as (y_lssn (q := 0) rfl rfl rfl ) (congrArg Value.bool (decide_eq_false (by omega)))) ?_
    refine hl_y rfl rfl rfl (y_move rfl rfl) ?_
    refine hl_yg 2 20 false rfl rfl rfl rfl rfl (y_move rfl rfl) ?_
    refine hl_yg 2 20 false rfl rfl rfl rfl rfl (y_gtrn (q := 65536) rfl rfl rfl ) ?_
    refine hl_y rfl rfl rfl (y_pick (b := false) rfl rfl rfl) ?_
    refine hl_nil ?_
    refine hq_then ?_
    refine hc_if rfl (fun c1 => ?_) (fun c1 => ?_)
    · replace c1 := of_decide_eq_true c1
      refine hc_seq ?_
      refine hc_region ?_
      refine hl_y rfl rfl rfl (y_assign rfl rfl) ?_
      refine hl_y rfl rfl rfl (y_assign (v := vi 2) rfl rfl) ?_
      refine hl_nil ?_
      refine hq_then ?_
      refine hc_ret ?_
      exact hq_then_ret (hq_ret2 (.slice none 0 0) rfl (rv_tmp rfl) (rv_tmp rfl) (by rw [strNR, show strFR kl nl n = 2 from by rw [strFR, if_pos ok, if_neg (by omega)], if_neg (by omega)]; rfl) (fun _ h => (mm_nil 5 _ (Mm.pick h [] (by decide))).mm (by rw [strAR, if_neg (by rw [show strFR kl nl n = 2 from by rw [strFR, if_pos ok, if_neg (by omega)]]; omega)]; rfl)))
    · replace c1 := of_decide_eq_false c1
      refine hc_skip ?_
      refine hq_then ?_
      refine hc_seq ?_
      have ok2 := ok.2
      refine hc_region ?_
      refine hl_y rfl rfl rfl (y_move rfl rfl) ?_
      refine hl_i rfl rfl rfl (e_call0 rfl F96 rfl (fun w hw => r11_Schedule_ct _ _ w ((rdF hk) w hw)) rfl) ?_; intro _
      refine hl_y rfl rfl rfl (y_move rfl rfl) ?_
      refine hl_y rfl rfl rfl (y_extract rfl rfl rfl) ?_
      refine hl_y rfl rfl rfl (y_extract rfl rfl rfl) ?_
      refine hl_i rfl rfl rfl (e_alloc rfl Z82) ?_; intro g8
      refine hl_i0 rfl rfl (e_stw 0 rfl T82.2 rfl rfl rfl (ns_oneb _ _)) ?_; intro _
      refine hl_y rfl rfl rfl (y_assign rfl rfl) ?_
      refine hl_nil ?_
      refine hq_then ?_
      refine hc_seq ?_
      refine hc_region ?_
      refine hl_y rfl rfl rfl (y_assign rfl rfl) ?_
      refine hl_nil ?_
      refine hq_then ?_
      refine hc_seq ?_
      refine hc_seq ?_
      refine hc_region ?_
      refine hl_y rfl rfl rfl (y_assign (v := vi 0) rfl rfl) ?_
      refine hl_nil ?_
      refine hq_then ?_
      refine hc_block ?_
      refine hc_loop2 (fun i v => i ≤ (n + 15) / 16) (fun i v => (n + 15) / 16 - i) (fun i v => [(1, nv), (2, vi n), (8, .pointer (some ⟨g8, 0, none⟩)), (10, v), (11, vi i)]) (fun i v => Mm w [.row 5 v (ls vb (strL (encR (schR kl)) (keyF nl) i)), .blk g8 82 (ns vb 240 (schR kl))]) (0) (.slice none 0 0) (by omega) ⟨rfl, lk_int rfl (by omega), rfl, rfl, lk_int rfl (by omega), trivial⟩ (fun _ h => mm_nil 5 _ h) ?_
      intro i v hi
      refine hc_seq ?_
      refine hc_seq ?_
      refine hc_region ?_
      refine hl_y rfl rfl rfl (y_move rfl rfl) ?_
      refine hl_y rfl rfl rfl (y_lenE (16 * i) rfl rfl S22 rfl (rdR 0 rfl) (by rw [ls_len, strL_len])) ?_
      refine hl_y rfl rfl rfl (y_move rfl rfl) ?_
      refine hl_y rfl rfl rfl (y_lssn rfl rfl rfl ) ?_
      refine hl_nil ?_
      refine hq_then ?_
      refine hc_if rfl (fun c2 => ?_) (fun c2 => ?_)
      · replace c2 := of_decide_eq_true c2
        refine hc_skip ?_
        refine hq_then ?_
        refine hc_seq ?_
        refine hc_block ?_
        refine hc_seq ?_
        refine hc_drawP [1] follows_mixed ?_
        refine hh_y 0 rfl rfl rfl rfl (by kernel_rfl) (by kernel_rfl) (by kernel_rfl) (fun _ h => Mm.pick h [1] (by decide)) (y_ldw 0 rfl T82 rfl rfl) ?_
        refine hh_y 1 rfl rfl rfl rfl (by kernel_rfl) (by kernel_rfl) (by kernel_rfl) (fun _ h => Mm.pick h [1] (by decide)) (y_move rfl rfl) ?_
        refine hh_y 2 rfl rfl rfl rfl (by kernel_rfl) (by kernel_rfl) (by kernel_rfl) (fun _ h => Mm.pick h [1] (by decide)) (y_move rfl rfl) ?_
        refine hh_or2 3 5 (by kernel_rfl) ?_ ?_
        · skip
          refine ho_i 3 rfl rfl rfl rfl (e_call0 rfl F98 rfl (fun w hw => r12_counter_ct _ _ i w ((rdF hn) w hw) (by omega) (by omega)) rfl) (fun _ _ h => Mm.pick h [1] (by decide)) ?_; intro _
          refine hh_pair 4 5 (.inl (by kernel_rfl)) (by kernel_rfl) (by kernel_rfl) rfl rfl rfl rfl rfl rfl rfl rfl rfl rfl (e_alloc rfl Z81) (e_call0 rfl F97 rfl (fun w hw => r11_Encrypt_ct _ _ w) rfl) (by intro _; exact e_call0 rfl F97 rfl (fun w hw => r11_Encrypt_ct _ _ w) rfl) (fun _ h => Mm.pick h [1] (by decide)) (fun _ _ h => Mm.pick h [2] (by decide)) rfl rfl ?_; intro g12
          refine hh_i0 6 rfl rfl rfl (by kernel_rfl) (e_stw 0 rfl T81.2 rfl rfl rfl (ns_oneb _ _)) (fun _ _ h => Mm.pick_set h [2] (by decide) (by decide)) ?_; intro _
          refine hh_done (by kernel_rfl) ?_
          refine hq_then ?_
          refine hc_seq ?_
          refine hc_region ?_
          refine hl_y rfl rfl rfl (y_assign (v := vi 0) rfl rfl) ?_
          refine hl_nil ?_
          refine hq_then ?_
          refine hc_block ?_
          refine hc_loop2 (fun j u => j ≤ 16) (fun j u => 16 - j) (fun j u => [(1, nv), (2, vi n), (8, .pointer (some ⟨g8, 0, none⟩)), (10, u), (11, vi i), (12, .pointer (some ⟨g12, 0, none⟩)), (13, vi j)]) (fun j u => Mm w [.blk g12 81 (ns vb 16 (encR (schR kl) (addC (keyF nl) i))), .row 5 u (ls vb (strL (encR (schR kl)) (keyF nl) i ++ (List.range j).map (encR (schR kl) (addC (keyF nl) i)))), .blk g8 82 (ns vb 240 (schR kl))]) (0) (v) (by omega) ⟨rfl, lk_int rfl (by omega), rfl, rfl, lk_int rfl (by omega), rfl, lk_int rfl (by omega), trivial⟩ (fun _ h => h.mm (by simp [ls])) ?_
          intro j u hj
          refine hc_seq ?_
          refine hc_seq ?_
          refine hc_region ?_
          refine hl_y rfl rfl rfl (y_move rfl rfl) ?_
          refine hl_y rfl rfl rfl (y_lssn (q := 16) rfl rfl rfl ) ?_
          refine hl_nil ?_
          refine hq_then ?_
          refine hc_if rfl (fun c3 => ?_) (fun c3 => ?_)
          · replace c3 := of_decide_eq_true c3
            refine hc_skip ?_
            refine hq_then ?_
            refine hc_seq ?_
            refine hc_block ?_
            refine hc_region ?_
            refine hl_y rfl rfl rfl (y_move rfl rfl) ?_
            refine hl_y rfl rfl rfl (y_move rfl rfl) ?_
            refine hl_y rfl rfl rfl (y_ixa1 rfl T81 O5 rfl rfl (by omega)) ?_
            refine hl_y rfl rfl rfl (y_ldn 0 rfl O5 rfl rfl (by omega)) ?_
            refine hl_i rfl rfl rfl (e_lit1 rfl S22 Z1_5 rfl rfl rfl) ?_; intro g48
            refine hl_i rfl rfl rfl (e_appb 2 rfl A22_5 rfl rfl rfl (rdB 0 rfl rfl rfl (by omega)) (show _ = ls vb [encR (schR kl) (addC (keyF nl) i) j] from rfl) (by rw [List.length_append, strL_len]; simp; omega)) ?_; intro y49
            refine hl_y rfl rfl rfl (y_assign rfl rfl) ?_
            refine hl_nil ?_
            refine hq_in (hq_then ?_)
            refine hc_region ?_
            refine hl_y rfl rfl rfl (y_move rfl rfl) ?_
            refine hl_y rfl rfl rfl (y_addn (q := 1) rfl rfl rfl (by omega)) ?_
            refine hl_y rfl rfl rfl (y_assign rfl rfl) ?_
            refine hl_nil ?_
            exact hq_round2 (j + 1) (y49) (by omega) (by omega) ⟨rfl, lk_int rfl (by omega), rfl, rfl, lk_int rfl (by omega), rfl, lk_int rfl (by omega), trivial⟩ (fun _ h => ((Mm.pick h [1, 2, 3] (by decide)).setr 1 rfl (by rw [List.append_assoc, List.range_succ, List.map_append]; rfl)))
          · replace c3 := of_decide_eq_false c3
            refine hc_exit ?_
            refine hq_then_exit (hq_loop_exit2 (hq_in_same (hq_in (hq_then ?_))))
            refine hc_region ?_
            refine hl_y rfl rfl rfl (y_move rfl rfl) ?_
            refine hl_y rfl rfl rfl (y_addn (q := 1) rfl rfl rfl (by omega)) ?_
            refine hl_y rfl rfl rfl (y_assign rfl rfl) ?_
            refine hl_nil ?_
            exact hq_round2 (i + 1) (u) (by omega) (by omega) ⟨rfl, lk_int rfl (by omega), rfl, rfl, lk_int rfl (by omega), trivial⟩ (fun _ h => (Mm.pick h [1, 2] (by decide)).setr 0 rfl (by rw [show j = 16 from by omega]; rfl))
        · skip
          refine ho_i 5 rfl rfl rfl rfl (e_alloc rfl Z81) (fun _ _ h => Mm.pick h [2] (by decide)) ?_; intro g12
          refine hh_i 3 rfl rfl rfl rfl (by kernel_rfl) (e_call0 rfl F98 rfl (fun w hw => r12_counter_ct _ _ i w ((rdF hn) w hw) (by omega) (by omega)) rfl) (fun _ _ h => Mm.pick h [2] (by decide)) ?_; intro _
          refine hh_i 4 rfl rfl rfl rfl (by kernel_rfl) (e_call0 rfl F97 rfl (fun w hw => r11_Encrypt_ct _ _ w) rfl) (fun _ _ h => Mm.pick h [2] (by decide)) ?_; intro _
          refine hh_i0 6 rfl rfl rfl (by kernel_rfl) (e_stw 0 rfl T81.2 rfl rfl rfl (ns_oneb _ _)) (fun _ _ h => Mm.pick_set h [2] (by decide) (by decide)) ?_; intro _
          refine hh_done (by kernel_rfl) ?_
          refine hq_then ?_
          refine hc_seq ?_
          refine hc_region ?_
          refine hl_y rfl rfl rfl (y_assign (v := vi 0) rfl rfl) ?_
          refine hl_nil ?_
          refine hq_then ?_
          refine hc_block ?_
          refine hc_loop2 (fun j u => j ≤ 16) (fun j u => 16 - j) (fun j u => [(1, nv), (2, vi n), (8, .pointer (some ⟨g8, 0, none⟩)), (10, u), (11, vi i), (12, .pointer (some ⟨g12, 0, none⟩)), (13, vi j)]) (fun j u => Mm w [.blk g12 81 (ns vb 16 (encR (schR kl) (addC (keyF nl) i))), .row 5 u (ls vb (strL (encR (schR kl)) (keyF nl) i ++ (List.range j).map (encR (schR kl) (addC (keyF nl) i)))), .blk g8 82 (ns vb 240 (schR kl))]) (0) (v) (by omega) ⟨rfl, lk_int rfl (by omega), rfl, rfl, lk_int rfl (by omega), rfl, lk_int rfl (by omega), trivial⟩ (fun _ h => h.mm (by simp [ls])) ?_
          intro j u hj
          refine hc_seq ?_
          refine hc_seq ?_
          refine hc_region ?_
          refine hl_y rfl rfl rfl (y_move rfl rfl) ?_
          refine hl_y rfl rfl rfl (y_lssn (q := 16) rfl rfl rfl ) ?_
          refine hl_nil ?_
          refine hq_then ?_
          refine hc_if rfl (fun c4 => ?_) (fun c4 => ?_)
          · replace c4 := of_decide_eq_true c4
            refine hc_skip ?_
            refine hq_then ?_
            refine hc_seq ?_
            refine hc_block ?_
            refine hc_region ?_
            refine hl_y rfl rfl rfl (y_move rfl rfl) ?_
            refine hl_y rfl rfl rfl (y_move rfl rfl) ?_
            refine hl_y rfl rfl rfl (y_ixa1 rfl T81 O5 rfl rfl (by omega)) ?_
            refine hl_y rfl rfl rfl (y_ldn 0 rfl O5 rfl rfl (by omega)) ?_
            refine hl_i rfl rfl rfl (e_lit1 rfl S22 Z1_5 rfl rfl rfl) ?_; intro g48
            refine hl_i rfl rfl rfl (e_appb 2 rfl A22_5 rfl rfl rfl (rdB 0 rfl rfl rfl (by omega)) (show _ = ls vb [encR (schR kl) (addC (keyF nl) i) j] from rfl) (by rw [List.length_append, strL_len]; simp; omega)) ?_; intro y49
            refine hl_y rfl rfl rfl (y_assign rfl rfl) ?_
            refine hl_nil ?_
            refine hq_in (hq_then ?_)
            refine hc_region ?_
            refine hl_y rfl rfl rfl (y_move rfl rfl) ?_
            refine hl_y rfl rfl rfl (y_addn (q := 1) rfl rfl rfl (by omega)) ?_
            refine hl_y rfl rfl rfl (y_assign rfl rfl) ?_
            refine hl_nil ?_
            exact hq_round2 (j + 1) (y49) (by omega) (by omega) ⟨rfl, lk_int rfl (by omega), rfl, rfl, lk_int rfl (by omega), rfl, lk_int rfl (by omega), trivial⟩ (fun _ h => ((Mm.pick h [1, 2, 3] (by decide)).setr 1 rfl (by rw [List.append_assoc, List.range_succ, List.map_append]; rfl)))
          · replace c4 := of_decide_eq_false c4
            refine hc_exit ?_
            refine hq_then_exit (hq_loop_exit2 (hq_in_same (hq_in (hq_then ?_))))
            refine hc_region ?_
            refine hl_y rfl rfl rfl (y_move rfl rfl) ?_
            refine hl_y rfl rfl rfl (y_addn (q := 1) rfl rfl rfl (by omega)) ?_
            refine hl_y rfl rfl rfl (y_assign rfl rfl) ?_
            refine hl_nil ?_
            exact hq_round2 (i + 1) (u) (by omega) (by omega) ⟨rfl, lk_int rfl (by omega), rfl, rfl, lk_int rfl (by omega), trivial⟩ (fun _ h => (Mm.pick h [1, 2] (by decide)).setr 0 rfl (by rw [show j = 16 from by omega]; rfl))
      · replace c2 := of_decide_eq_false c2
        refine hc_exit ?_
        refine hq_then_exit (hq_loop_exit2 (hq_in_same (hq_then ?_)))
        refine hc_seq ?_
        refine hc_region ?_
        refine hl_y rfl rfl rfl (y_move rfl rfl) ?_
        refine hl_y rfl rfl rfl (y_move rfl rfl) ?_
        refine hl_y rfl rfl rfl (y_slc0 rfl S22 rfl (rdR 0 rfl) rfl (by rw [ls_len, strL_len]; omega)) ?_
        refine hl_y rfl rfl rfl (y_assign rfl rfl) ?_
        refine hl_y rfl rfl rfl (y_assign (v := vi 0) rfl rfl) ?_
        refine hl_nil ?_
        refine hq_then ?_
        refine hc_ret ?_
        exact hq_ret2 (v) rfl (rv_tmp rfl) (rv_tmp rfl) (by rw [strNR, show strFR kl nl n = 0 from by rw [strFR, if_pos ok, if_pos (by omega)], if_pos rfl]) (fun _ h => (Mm.pick h [0] (by decide)).mm (by rw [strAR, if_pos (by rw [show strFR kl nl n = 0 from by rw [strFR, if_pos ok, if_pos (by omega)]]), strM, show i = (n + 15) / 16 from by omega]; rfl))
  · skip
    refine hc_region ?_
    refine hl_y rfl rfl rfl (y_move rfl rfl) ?_
    refine hl_y rfl rfl rfl (y_move rfl rfl) ?_
    refine hl_i rfl rfl rfl (e_call0 rfl F95 rfl (fun w hw => r12_Right_f _ _ _ _ w ((rdF hk) w hw) ((rdF hn) w hw) ok) rfl) ?_; intro _
    refine hl_y rfl rfl rfl (y_not rfl rfl) ?_
    refine hl_nil ?_
    refine hq_then ?_
    refine hc_ifT rfl ?_
    refine hc_seq ?_
    refine hc_region ?_
    refine hl_y rfl rfl rfl (y_assign rfl rfl) ?_
    refine hl_y rfl rfl rfl (y_assign (v := vi 4) rfl rfl) ?_
    refine hl_nil ?_
    refine hq_then ?_
    refine hc_ret ?_
    exact hq_then_ret (hq_ret2 (.slice none 0 0) rfl (rv_tmp rfl) (rv_tmp rfl) (by rw [strNR, show strFR kl nl n = 4 from if_neg ok, if_neg (by omega)]; rfl) (fun _ h => (mm_nil 5 _ (Mm.pick h [] (by decide))).mm (by rw [strAR, if_neg (by rw [show strFR kl nl n = 4 from if_neg ok]; omega)]; rfl)))

theorem r12_Stream_neg (kl nl : List UInt8) (kv nv : Value) (n : Int) (hb : -9223372036854775808 ≤ n) (hn0 : n < 0) (w : World) (hk : Rd w kv (ls vb kl)) (hn : Rd w nv (ls vb nl)) : Ct0 Tryd.prog 82 #[kv, nv, .int .i64 n] w (.tuple #[.slice none 0 0, vi (atFnR kl nl)]) := by
  refine ct0_of Tryd.func82 rfl Tryd.ntmps82 rfl ?_
  refine hc_seq ?_
  refine hc_region ?_
  refine hl_y rfl rfl rfl (y_assign rfl rfl) ?_
  refine hl_y rfl rfl rfl (y_assign (v := vi 0) rfl rfl) ?_
  refine hl_nil ?_
  refine hq_then ?_
  refine hc_seq ?_
  refine hc_seq ?_
  rcases Decidable.em (okR kl nl) with ok | ok
  · skip
    refine hc_region ?_
    refine hl_y rfl rfl rfl (y_move rfl rfl) ?_
    refine hl_y rfl rfl rfl (y_move rfl rfl) ?_
    refine hl_i rfl rfl rfl (e_call0 rfl F95 rfl (fun w hw => r12_Right_t _ _ _ _ w ((rdF hk) w hw) ((rdF hn) w hw) ok) rfl) ?_; intro _
    refine hl_y rfl rfl rfl (y_not rfl rfl) ?_
    refine hl_nil ?_
    refine hq_then ?_
    refine hc_ifF rfl ?_
    refine hc_skip ?_
    refine hq_then ?_
    refine hc_seq ?_
    refine hc_seq ?_
    refine hc_region ?_
    refine hl_y rfl rfl rfl (y_move rfl rfl) ?_
    refine hl_y rfl rfl rfl (y_as (y_lssi (q := 0) rfl rfl rfl ) (congrArg Value.bool (decide_eq_true (by omega)))) ?_
    refine hl_y rfl rfl rfl (y_move rfl rfl) ?_
    refine hl_no 2 20 false true rfl rfl rfl rfl rfl rfl ?_
    refine hl_no 2 20 false true rfl rfl rfl rfl rfl rfl ?_
    refine hl_y rfl rfl rfl (y_pick (b := true) rfl rfl rfl) ?_
    refine hl_nil ?_
    refine hq_then ?_
    refine hc_ifT rfl ?_
    refine hc_seq ?_
    refine hc_region ?_
    refine hl_y rfl rfl rfl (y_assign rfl rfl) ?_
    refine hl_y rfl rfl rfl (y_assign (v := vi 2) rfl rfl) ?_
    refine hl_nil ?_
    refine hq_then ?_
    refine hc_ret ?_
    exact hq_then_ret (hq_ret2 (()) rfl (rv_tmp rfl) (rv_tmp rfl) (by rw [atFnR, if_pos ok]) (fun _ h => Mm.pick h [] (by simp)))
  · skip
    refine hc_region ?_
    refine hl_y rfl rfl rfl (y_move rfl rfl) ?_
    refine hl_y rfl rfl rfl (y_move rfl rfl) ?_
    refine hl_i rfl rfl rfl (e_call0 rfl F95 rfl (fun w hw => r12_Right_f _ _ _ _ w ((rdF hk) w hw) ((rdF hn) w hw) ok) rfl) ?_; intro _
    refine hl_y rfl rfl rfl (y_not rfl rfl) ?_
    refine hl_nil ?_
    refine hq_then ?_
    refine hc_ifT rfl ?_
    refine hc_seq ?_
    refine hc_region ?_
    refine hl_y rfl rfl rfl (y_assign rfl rfl) ?_
    refine hl_y rfl rfl rfl (y_assign (v := vi 4) rfl rfl) ?_
    refine hl_nil ?_
    refine hq_then ?_
    refine hc_ret ?_
    exact hq_then_ret (hq_ret2 (()) rfl (rv_tmp rfl) (rv_tmp rfl) (by rw [atFnR, if_neg ok]) (fun _ h => Mm.pick h [] (by simp)))

end Go.Proofs.YtcdidapkpfnphaaDoor
