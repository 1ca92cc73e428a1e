/- Streams laid over texts: what each call gives back. -/
import Derived.Test.YtcdidapkpfnphaaDoorCtrB
namespace Go.Proofs.YtcdidapkpfnphaaDoor
open Go.RowKit
set_option linter.unusedVariables false
set_option linter.unusedSimpArgs false
set_option maxRecDepth 100000
theorem num_Xor_ct (la lb : List UInt8) (av bv : Value)  (w : World) (ha : Rd w av (ls vb la)) (hb : Rd w bv (ls vb lb)) (hm : la.length ≤ 281474976710656) : Ct Tryd.prog 81 #[av, bv] w (fun v : Value => v) (fun v => [.row 5 v (ls vb (xorL la lb))]) := by
  obtain ⟨n, hn⟩ : ∃ n, n = min la.length lb.length := ⟨_, rfl⟩
  refine ct_of Tryd.func81 rfl Tryd.ntmps81 rfl ?_
  refine hc_seq ?_
  refine hc_region ?_
  refine hl_y rfl rfl rfl (y_assign rfl rfl) ?_
  refine hl_nil ?_
  refine hq_then ?_
  refine hc_seq ?_
  refine hc_region ?_
  refine hl_y rfl rfl rfl (y_move rfl rfl) ?_
  refine hl_y rfl rfl rfl (y_lenE (la.length) rfl rfl S22 rfl (rdF ha) (by first | rfl | simp only [ls_len, ns_len] | (simp only [ls_len, ns_len]; omega))) ?_
  refine hl_y rfl rfl rfl (y_move rfl rfl) ?_
  refine hl_y rfl rfl rfl (y_lenE (lb.length) rfl rfl S22 rfl (rdF hb) (by first | rfl | simp only [ls_len, ns_len] | (simp only [ls_len, ns_len]; omega))) ?_
  refine hl_y rfl rfl rfl (y_as (y_minn rfl rfl rfl) (congrArg (fun n : Nat => vi n) hn.symm)) ?_
  refine hl_i rfl rfl rfl (e_make rfl S22 M5 rfl rfl rfl (by omega) (by omega) (by omega)) ?_; intro g12
  refine hl_y rfl rfl rfl (y_assign rfl rfl) ?_
  refine HL.mem (fun _ h => Mm.set h 0 rfl (rep_ns n)) ?_
  refine hl_nil ?_
  refine hq_then ?_
  refine hc_seq ?_
  refine hc_seq ?_
  refine hc_region ?_
  refine hl_y rfl rfl rfl (y_move rfl rfl) ?_
  refine hl_y rfl rfl rfl (y_lenE (n) rfl rfl S22 rfl (rdB 0 rfl (ns_sub0 (Nat.le_refl _)) (ns_len _ _) (Nat.le_refl _)) (ns_len _ _)) ?_
  refine hl_y rfl rfl rfl (y_move (v := vi 0) rfl rfl) ?_
  refine hl_nil ?_
  refine hq_then ?_
  refine hc_block ?_
  refine hc_loop (fun k => k ≤ n) (fun k => n - k) (fun k => [(0, av), (1, bv), (5, .slice (some ⟨g12, 0, none⟩) n n), (14, vi n), (15, vi k)]) (fun k => Mm w [.blk g12 5 (ns vb n (fun i => if i < k then la.getD i 0 ^^^ lb.getD i 0 else 0))]) (0) (by omega) ⟨rfl, rfl, rfl, lk_int rfl (by omega), lk_int rfl (by omega), trivial⟩ (fun _ h => Mm.mm h (by simp)) ?_
  intro k hk
  refine hc_seq ?_
  refine hc_region ?_
  refine hl_y rfl rfl rfl (y_lssn rfl rfl rfl ) ?_
  refine hl_nil ?_
  refine hq_then ?_
  refine hc_seq ?_
  refine hc_if rfl (fun c0 => ?_) (fun c0 => ?_)
  · replace c0 := of_decide_eq_true c0
    refine hc_skip ?_
    refine hq_then ?_
    refine hc_seq ?_
    refine hc_block ?_
    refine hc_seq ?_
    refine hc_region ?_
    refine hl_y rfl rfl rfl (y_move rfl rfl) ?_
    refine hl_y rfl rfl rfl (y_assign rfl rfl) ?_
    refine hl_nil ?_
    refine hq_then ?_
    refine hc_drawP [] follows_mixed ?_
    refine hh_y 0 rfl rfl rfl rfl (by kernel_rfl) (by kernel_rfl) (by kernel_rfl) (fun _ h => Mm.pick h [] (by decide)) (y_move rfl rfl) ?_
    refine hh_y 1 rfl rfl rfl rfl (by kernel_rfl) (by kernel_rfl) (by kernel_rfl) (fun _ h => Mm.pick h [] (by decide)) (y_move rfl rfl) ?_
    refine hh_y 2 rfl rfl rfl rfl (by kernel_rfl) (by kernel_rfl) (by kernel_rfl) (fun _ h => Mm.pick h [] (by decide)) (y_move rfl rfl) ?_
    refine hh_y 3 rfl rfl rfl rfl (by kernel_rfl) (by kernel_rfl) (by kernel_rfl) (fun _ h => Mm.pick h [] (by decide)) (y_move rfl rfl) ?_
    refine hh_y 4 rfl rfl rfl rfl (by kernel_rfl) (by kernel_rfl) (by kernel_rfl) (fun _ h => Mm.pick h [] (by decide)) (y_ixs rfl S22 rfl (rdF ha) rfl (by first | omega | (simp only [ls_len, ns_len]; omega) | (simp only [List.length_take, List.length_drop, ls_len, ns_len]; omega))) ?_
    refine hh_y 5 rfl rfl rfl rfl (by kernel_rfl) (by kernel_rfl) (by kernel_rfl) (fun _ h => Mm.pick h [] (by decide)) (y_ldb rfl O5 rfl (rdF ha) (by omega)) ?_
    refine hh_y 6 rfl rfl rfl rfl (by kernel_rfl) (by kernel_rfl) (by kernel_rfl) (fun _ h => Mm.pick h [] (by decide)) (y_move rfl rfl) ?_
    refine hh_y 7 rfl rfl rfl rfl (by kernel_rfl) (by kernel_rfl) (by kernel_rfl) (fun _ h => Mm.pick h [] (by decide)) (y_move rfl rfl) ?_
    refine hh_y 8 rfl rfl rfl rfl (by kernel_rfl) (by kernel_rfl) (by kernel_rfl) (fun _ h => Mm.pick h [] (by decide)) (y_ixs rfl S22 rfl (rdF hb) rfl (by first | omega | (simp only [ls_len, ns_len]; omega) | (simp only [List.length_take, List.length_drop, ls_len, ns_len]; omega))) ?_
    refine hh_y 9 rfl rfl rfl rfl (by kernel_rfl) (by kernel_rfl) (by kernel_rfl) (fun _ h => Mm.pick h [] (by decide)) (y_ldb rfl O5 rfl (rdF hb) (by omega)) ?_
    refine hh_y 10 rfl rfl rfl rfl (by kernel_rfl) (by kernel_rfl) (by kernel_rfl) (fun _ h => Mm.pick h [] (by decide)) (y_xorb rfl rfl rfl) ?_
    refine hh_y 11 rfl rfl rfl rfl (by kernel_rfl) (by kernel_rfl) (by kernel_rfl) (fun _ h => Mm.pick h [] (by decide)) (y_ixb rfl S22 rfl rfl (by omega)) ?_
    refine hh_i0 12 rfl rfl rfl (by kernel_rfl) (e_stn 0 rfl O5.2 rfl rfl rfl rfl (by omega)) (fun _ _ h => Mm.pick_set h [] (by decide) (by decide)) ?_; intro _
    refine hh_done (by kernel_rfl) ?_
    refine hq_in (hq_then ?_)
    refine hc_region ?_
    refine hl_y rfl rfl rfl (y_addn (q := 1) rfl rfl rfl (by omega)) ?_
    refine hl_y rfl rfl rfl (y_move rfl rfl) ?_
    refine hl_nil ?_
    exact hq_round (k + 1) (by omega) (by omega) ⟨rfl, rfl, rfl, lk_int rfl (by omega), lk_int rfl (by omega), trivial⟩ (fun _ h => Mm.set h 0 rfl (by rw [Nat.zero_add]; exact ns_step (f := fun i => la.getD i 0 ^^^ lb.getD i 0) (g := fun _ => 0) rfl))
  · replace c0 := of_decide_eq_false c0
    refine hc_exit ?_
    refine hq_then_exit (hq_loop_exit (hq_in_same (hq_then ?_)))
    refine hc_seq ?_
    refine hc_region ?_
    refine hl_y rfl rfl rfl (y_move rfl rfl) ?_
    refine hl_y rfl rfl rfl (y_assign rfl rfl) ?_
    refine hl_nil ?_
    refine hq_then ?_
    refine hc_ret ?_
    exact hq_ret1 (.slice (some ⟨g12, 0, none⟩) n n) rfl (rv_tmp rfl) rfl (fun _ h => (mm_rown 0 rfl (by omega) _ h).mm (by rw [xor_fill hn (by omega)]; rfl))

theorem r01_Xor_ct (la lb : List UInt8) (av bv : Value)  (w : World) (ha : Rd w av (ls vb la)) (hb : Rd w bv (ls vb lb)) (hm : la.length ≤ 140737488355327) : Ct Tryd.prog 83 #[av, bv] w (fun v : Value => v) (fun v => [.row 5 v (ls vb (xorL la lb))]) := by
  refine ct_of Tryd.func83 rfl Tryd.ntmps83 rfl ?_
  refine hc_seq ?_
  refine hc_region ?_
  refine hl_y rfl rfl rfl (y_assign rfl rfl) ?_
  refine hl_nil ?_
  refine hq_then ?_
  refine hc_seq ?_
  refine hc_region ?_
  refine hl_y rfl rfl rfl (y_assign rfl rfl) ?_
  refine hl_nil ?_
  refine hq_then ?_
  refine hc_seq ?_
  refine hc_seq ?_
  refine hc_region ?_
  refine hl_y rfl rfl rfl (y_assign (v := vi 0) rfl rfl) ?_
  refine hl_nil ?_
  refine hq_then ?_
  refine hc_block ?_
  refine hc_loop2 (fun k v => k ≤ la.length ∧ k ≤ lb.length) (fun k v => la.length - k) (fun k v => [(0, av), (1, bv), (5, v), (6, vi k)]) (fun k v => Mm w [.row 5 v (ls vb ((xorL la lb).take k))]) (0) (.slice none 0 0) ⟨Nat.zero_le _, Nat.zero_le _⟩ ⟨rfl, rfl, rfl, lk_int rfl (by omega), trivial⟩ (fun _ h => mm_nil 5 _ h) ?_
  intro k v hk
  refine hc_seq ?_
  refine hc_seq ?_
  rcases Decidable.em (k < la.length) with c1 | c1
  · skip
    rcases Decidable.em (k < lb.length) with c2 | c2
    · skip
      refine hc_region ?_
      refine hl_y rfl rfl rfl (y_move rfl rfl) ?_
      refine hl_y rfl rfl rfl (y_move rfl rfl) ?_
      refine hl_y rfl rfl rfl (y_lenE (la.length) rfl rfl S22 rfl (rdF ha) (by first | rfl | simp only [ls_len, ns_len] | (simp only [ls_len, ns_len]; omega))) ?_
      refine hl_y rfl rfl rfl (y_as (y_lssn rfl rfl rfl ) (congrArg Value.bool (decide_eq_true (c1)))) ?_
      refine hl_y rfl rfl rfl (y_move rfl rfl) ?_
      refine hl_yg 4 11 true rfl rfl rfl rfl rfl (y_move rfl rfl) ?_
      refine hl_yg 4 11 true rfl rfl rfl rfl rfl (y_move rfl rfl) ?_
      refine hl_yg 4 11 true rfl rfl rfl rfl rfl (y_lenE (lb.length) rfl rfl S22 rfl (rdF hb) (by first | rfl | simp only [ls_len, ns_len] | (simp only [ls_len, ns_len]; omega))) ?_
      refine hl_yg 4 11 true rfl rfl rfl rfl rfl (y_as (y_lssn rfl rfl rfl ) (congrArg Value.bool (decide_eq_true (c2)))) ?_
      refine hl_y rfl rfl rfl (y_pick (b := true) rfl rfl rfl) ?_
      refine hl_nil ?_
      refine hq_then ?_
      refine hc_ifT rfl ?_
      refine hc_skip ?_
      refine hq_then ?_
      refine hc_seq ?_
      refine hc_block ?_
      refine hc_drawP [] follows_mixed ?_
      refine hh_y 0 rfl rfl rfl rfl (by kernel_rfl) (by kernel_rfl) (by kernel_rfl) (fun _ h => Mm.pick h [] (by decide)) (y_move rfl rfl) ?_
      refine hh_y 1 rfl rfl rfl rfl (by kernel_rfl) (by kernel_rfl) (by kernel_rfl) (fun _ h => Mm.pick h [] (by decide)) (y_move rfl rfl) ?_
      refine hh_y 2 rfl rfl rfl rfl (by kernel_rfl) (by kernel_rfl) (by kernel_rfl) (fun _ h => Mm.pick h [] (by decide)) (y_move rfl rfl) ?_
      refine hh_y 3 rfl rfl rfl rfl (by kernel_rfl) (by kernel_rfl) (by kernel_rfl) (fun _ h => Mm.pick h [] (by decide)) (y_ixs rfl S22 rfl (rdF ha) rfl (by first | omega | (simp only [ls_len, ns_len]; omega) | (simp only [List.length_take, List.length_drop, ls_len, ns_len]; omega))) ?_
      refine hh_y 4 rfl rfl rfl rfl (by kernel_rfl) (by kernel_rfl) (by kernel_rfl) (fun _ h => Mm.pick h [] (by decide)) (y_ldb rfl O5 rfl (rdF ha) (by omega)) ?_
      refine hh_y 5 rfl rfl rfl rfl (by kernel_rfl) (by kernel_rfl) (by kernel_rfl) (fun _ h => Mm.pick h [] (by decide)) (y_move rfl rfl) ?_
      refine hh_y 6 rfl rfl rfl rfl (by kernel_rfl) (by kernel_rfl) (by kernel_rfl) (fun _ h => Mm.pick h [] (by decide)) (y_move rfl rfl) ?_
      refine hh_y 7 rfl rfl rfl rfl (by kernel_rfl) (by kernel_rfl) (by kernel_rfl) (fun _ h => Mm.pick h [] (by decide)) (y_ixs rfl S22 rfl (rdF hb) rfl (by first | omega | (simp only [ls_len, ns_len]; omega) | (simp only [List.length_take, List.length_drop, ls_len, ns_len]; omega))) ?_
      refine hh_y 8 rfl rfl rfl rfl (by kernel_rfl) (by kernel_rfl) (by kernel_rfl) (fun _ h => Mm.pick h [] (by decide)) (y_ldb rfl O5 rfl (rdF hb) (by omega)) ?_
      refine hh_y 9 rfl rfl rfl rfl (by kernel_rfl) (by kernel_rfl) (by kernel_rfl) (fun _ h => Mm.pick h [] (by decide)) (y_xorb rfl rfl rfl) ?_
      refine hh_i 10 rfl rfl rfl rfl (by kernel_rfl) (e_lit1 rfl S22 Z1_5 rfl rfl rfl) (fun _ _ h => Mm.pick h [] (by decide)) ?_; intro g29
      refine hh_i 11 rfl rfl rfl rfl (by kernel_rfl) (e_appb 1 rfl A22_5 rfl rfl rfl (rdB 0 rfl rfl rfl (by omega)) (show _ = ls vb [la.getD k 0 ^^^ lb.getD k 0] from rfl) (by simp only [List.length_take, xorL_len, List.length_singleton]; omega)) (fun _ _ h => Mm.pick h [] (by decide)) ?_; intro y30
      refine hh_y 12 rfl rfl rfl rfl (by kernel_rfl) (by kernel_rfl) (by kernel_rfl) (fun _ h => Mm.pick h [] (by decide)) (y_assign rfl rfl) ?_
      refine hh_done (by kernel_rfl) ?_
      refine hq_in (hq_then ?_)
      refine hc_region ?_
      refine hl_y rfl rfl rfl (y_move rfl rfl) ?_
      refine hl_y rfl rfl rfl (y_addn (q := 1) rfl rfl rfl (by omega)) ?_
      refine hl_y rfl rfl rfl (y_assign rfl rfl) ?_
      refine hl_nil ?_
      exact hq_round2 (k + 1) (y30) (by omega) ⟨by omega, by omega⟩ ⟨rfl, rfl, rfl, lk_int rfl (by omega), trivial⟩ (fun _ h => (Mm.pick h [1] (by decide)).setr 0 rfl (by rw [xor_next c1 c2]))
    · skip
      refine hc_region ?_
      refine hl_y rfl rfl rfl (y_move rfl rfl) ?_
      refine hl_y rfl rfl rfl (y_move rfl rfl) ?_
      refine hl_y rfl rfl rfl (y_lenE (la.length) rfl rfl S22 rfl (rdF ha) (by first | rfl | simp only [ls_len, ns_len] | (simp only [ls_len, ns_len]; omega))) ?_
      refine hl_y rfl rfl rfl (y_as (y_lssn rfl rfl rfl ) (congrArg Value.bool (decide_eq_true (c1)))) ?_
      refine hl_y rfl rfl rfl (y_move rfl rfl) ?_
      refine hl_yg 4 11 true rfl rfl rfl rfl rfl (y_move rfl rfl) ?_
      refine hl_yg 4 11 true rfl rfl rfl rfl rfl (y_move rfl rfl) ?_
      refine hl_yg 4 11 true rfl rfl rfl rfl rfl (y_lenE (lb.length) rfl rfl S22 rfl (rdF hb) (by first | rfl | simp only [ls_len, ns_len] | (simp only [ls_len, ns_len]; omega))) ?_
      refine hl_yg 4 11 true rfl rfl rfl rfl rfl (y_as (y_lssn rfl rfl rfl ) (congrArg Value.bool (decide_eq_false (c2)))) ?_
      refine hl_y rfl rfl rfl (y_pick (b := true) rfl rfl rfl) ?_
      refine hl_nil ?_
      refine hq_then ?_
      refine hc_ifF rfl ?_
      refine hc_exit ?_
      refine hq_then_exit (hq_loop_exit2 (hq_in_same (hq_then ?_)))
      refine hc_seq ?_
      refine hc_region ?_
      refine hl_y rfl rfl rfl (y_move rfl rfl) ?_
      refine hl_y rfl rfl rfl (y_assign rfl rfl) ?_
      refine hl_nil ?_
      refine hq_then ?_
      refine hc_ret ?_
      exact hq_ret1 (v) rfl (rv_tmp rfl) rfl (fun _ h => h.mm (by rw [List.take_of_length_le (by rw [xorL_len]; omega)]))
  · skip
    refine hc_region ?_
    refine hl_y rfl rfl rfl (y_move rfl rfl) ?_
    refine hl_y rfl rfl rfl (y_move rfl rfl) ?_
    refine hl_y rfl rfl rfl (y_lenE (la.length) rfl rfl S22 rfl (rdF ha) (by first | rfl | simp only [ls_len, ns_len] | (simp only [ls_len, ns_len]; omega))) ?_
    refine hl_y rfl rfl rfl (y_as (y_lssn rfl rfl rfl ) (congrArg Value.bool (decide_eq_false (c1)))) ?_
    refine hl_y rfl rfl rfl (y_move rfl rfl) ?_
    refine hl_no 4 11 true false rfl rfl rfl rfl rfl rfl ?_
    refine hl_no 4 11 true false rfl rfl rfl rfl rfl rfl ?_
    refine hl_no 4 11 true false rfl rfl rfl rfl rfl rfl ?_
    refine hl_no 4 11 true false rfl rfl rfl rfl rfl rfl ?_
    refine hl_y rfl rfl rfl (y_pick (b := false) rfl rfl rfl) ?_
    refine hl_nil ?_
    refine hq_then ?_
    refine hc_ifF rfl ?_
    refine hc_exit ?_
    refine hq_then_exit (hq_loop_exit2 (hq_in_same (hq_then ?_)))
    refine hc_seq ?_
    refine hc_region ?_
    refine hl_y rfl rfl rfl (y_move rfl rfl) ?_
    refine hl_y rfl rfl rfl (y_assign rfl rfl) ?_
    refine hl_nil ?_
    refine hq_then ?_
    refine hc_ret ?_
    exact hq_ret1 (v) rfl (rv_tmp rfl) rfl (fun _ h => h.mm (by rw [List.take_of_length_le (by rw [xorL_len]; omega)]))

theorem over_none {kl nl tl : List UInt8} (h : strF kl nl tl.length ≠ 0) : over kl nl tl = [] := by
  rw [over, ovS, strA, if_neg h, List.take_nil]
  cases tl <;> rfl
theorem ctr_Over_ct (kl nl : List UInt8) (kv nv : Value) (tl : List UInt8) (tv : Value)  (w : World) (hk : Rd w kv (ls vb kl)) (hn : Rd w nv (ls vb nl)) (ht : Rd w tv (ls vb tl)) (hm : tl.length ≤ 140737488355327) : Ct Tryd.prog 59 #[kv, nv, tv] w (fun v : Value => .tuple #[v, vi (strF kl nl tl.length)]) (fun v => [.row 5 v (ls vb (over kl nl tl))]) := by
  refine ct_of Tryd.func59 rfl Tryd.ntmps59 rfl ?_
  refine hc_seq ?_
  refine hc_region ?_
  refine hl_y rfl rfl rfl (y_assign rfl rfl) ?_
  refine hl_y rfl rfl rfl (y_assign (v := vi 0) rfl rfl) ?_
  refine hl_nil ?_
  refine hq_then ?_
  refine hc_seq ?_
  refine hc_region ?_
  refine hl_y rfl rfl rfl (y_move rfl rfl) ?_
  refine hl_y rfl rfl rfl (y_move rfl rfl) ?_
  refine hl_y rfl rfl rfl (y_move rfl rfl) ?_
  refine hl_y rfl rfl rfl (y_lenE (tl.length) rfl rfl S22 rfl (rdF ht) (by first | rfl | simp only [ls_len, ns_len] | (simp only [ls_len, ns_len]; omega))) ?_
  refine hl_i rfl rfl rfl (e_call rfl F80 rfl (fun w hw => ctr_Stream_ct _ _ _ _ tl.length (by omega) w ((rdF hk) w hw) ((rdF hn) w hw)) rfl) ?_; intro y15
  refine hl_y rfl rfl rfl (y_move rfl rfl) ?_
  refine hl_y rfl rfl rfl (y_extract rfl rfl rfl) ?_
  refine hl_y rfl rfl rfl (y_extract rfl rfl rfl) ?_
  refine hl_y rfl rfl rfl (y_assign rfl rfl) ?_
  refine hl_y rfl rfl rfl (y_assign rfl rfl) ?_
  refine hl_nil ?_
  refine hq_then ?_
  refine hc_seq ?_
  refine hc_seq ?_
  refine hc_region ?_
  refine hl_y rfl rfl rfl (y_move rfl rfl) ?_
  refine hl_y rfl rfl rfl (y_neqn (q := 0) rfl rfl rfl ) ?_
  refine hl_nil ?_
  refine hq_then ?_
  refine hc_if rfl (fun c0 => ?_) (fun c0 => ?_)
  · replace c0 := of_decide_eq_true c0
    refine hc_seq ?_
    refine hc_region ?_
    refine hl_y rfl rfl rfl (y_move rfl rfl) ?_
    refine hl_y rfl rfl rfl (y_assign rfl rfl) ?_
    refine hl_y rfl rfl rfl (y_assign rfl rfl) ?_
    refine hl_nil ?_
    refine hq_then ?_
    refine hc_ret ?_
    exact hq_then_ret (hq_ret2 (.slice none 0 0) rfl (rv_tmp rfl) (rv_tmp rfl) rfl (fun _ h => (mm_nil 5 _ (Mm.pick h [] (by decide))).mm (by rw [over_none c0]; rfl)))
  · replace c0 := of_decide_eq_false c0
    refine hc_skip ?_
    refine hq_then ?_
    refine hc_seq ?_
    refine hc_region ?_
    refine hl_y rfl rfl rfl (y_move rfl rfl) ?_
    refine hl_y rfl rfl rfl (y_move rfl rfl) ?_
    refine hl_i rfl rfl rfl (e_call rfl F81 rfl (fun w hw => num_Xor_ct _ _ _ _ w ((rdF ht) w hw) ((rdR3 0 rfl (strN_le _ _ _)) w hw) (by omega)) rfl) ?_; intro y23
    refine hl_y rfl rfl rfl (y_assign rfl rfl) ?_
    refine hl_y rfl rfl rfl (y_assign (v := vi 0) rfl rfl) ?_
    refine hl_nil ?_
    refine hq_then ?_
    refine hc_ret ?_
    exact hq_ret2 (y23) rfl (rv_tmp rfl) (rv_tmp rfl) (by rw [show strF kl nl tl.length = 0 from by omega]) (fun _ h => (Mm.pick h [0] (by decide)))

theorem r12_Over_ct (kl nl : List UInt8) (kv nv : Value) (tl : List UInt8) (tv : Value)  (w : World) (hk : Rd w kv (ls vb kl)) (hn : Rd w nv (ls vb nl)) (ht : Rd w tv (ls vb tl)) (hm : tl.length ≤ 140737488355327) : Ct Tryd.prog 60 #[kv, nv, tv] w (fun v : Value => .tuple #[v, vi (strFR kl nl tl.length)]) (fun v => [.row 5 v (ls vb (overR kl nl tl))]) := by
  refine ct_of Tryd.func60 rfl Tryd.ntmps60 rfl ?_
  refine hc_seq ?_
  refine hc_region ?_
  refine hl_y rfl rfl rfl (y_assign rfl rfl) ?_
  refine hl_y rfl rfl rfl (y_assign (v := vi 0) rfl rfl) ?_
  refine hl_nil ?_
  refine hq_then ?_
  refine hc_seq ?_
  refine hc_region ?_
  refine hl_y rfl rfl rfl (y_move rfl rfl) ?_
  refine hl_y rfl rfl rfl (y_move rfl rfl) ?_
  refine hl_y rfl rfl rfl (y_move rfl rfl) ?_
  refine hl_y rfl rfl rfl (y_lenE (tl.length) rfl rfl S22 rfl (rdF ht) (by first | rfl | simp only [ls_len, ns_len] | (simp only [ls_len, ns_len]; omega))) ?_
  refine hl_i rfl rfl rfl (e_call rfl F82 rfl (fun w hw => r12_Stream_ct _ _ _ _ tl.length (by omega) w ((rdF hk) w hw) ((rdF hn) w hw)) rfl) ?_; intro y15
  refine hl_y rfl rfl rfl (y_move rfl rfl) ?_
  refine hl_y rfl rfl rfl (y_extract rfl rfl rfl) ?_
  refine hl_y rfl rfl rfl (y_extract rfl rfl rfl) ?_
  refine hl_y rfl rfl rfl (y_assign rfl rfl) ?_
  refine hl_y rfl rfl rfl (y_assign rfl rfl) ?_
  refine hl_nil ?_
  refine hq_then ?_
  refine hc_seq ?_
  refine hc_region ?_
  refine hl_y rfl rfl rfl (y_move rfl rfl) ?_
  refine hl_y rfl rfl rfl (y_move rfl rfl) ?_
  refine hl_i rfl rfl rfl (e_call rfl F83 rfl (fun w hw => r01_Xor_ct _ _ _ _ w ((rdF ht) w hw) ((rdR2 0 rfl (strNR_le _ _ _)) w hw) (by omega)) rfl) ?_; intro y20
  refine hl_y rfl rfl rfl (y_move rfl rfl) ?_
  refine hl_y rfl rfl rfl (y_assign rfl rfl) ?_
  refine hl_y rfl rfl rfl (y_assign rfl rfl) ?_
  refine hl_nil ?_
  refine hq_then ?_
  refine hc_ret ?_
  exact hq_ret2 (y20) rfl (rv_tmp rfl) (rv_tmp rfl) rfl (fun _ h => (Mm.pick h [0] (by decide)))

end Go.Proofs.YtcdidapkpfnphaaDoor
