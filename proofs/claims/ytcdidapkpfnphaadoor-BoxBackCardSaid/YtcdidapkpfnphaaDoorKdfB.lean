/- Keys derived, once and often: what each call gives back. -/
import Derived.Test.YtcdidapkpfnphaaDoorKdfA
import Derived.Test.YtcdidapkpfnphaaDoorLibK
namespace Go.Proofs.YtcdidapkpfnphaaDoor
open Go.RowKit
set_option linter.unusedVariables false
set_option linter.unusedSimpArgs false
set_option maxRecDepth 100000
theorem kdf_Derive_ct (kl : List UInt8) (kv : Value) (sl : List UInt8)  (w : World) (hk : Rd w kv (ls vb kl)) (hkm : kl.length ≤ 1000) (hsm : sl.length ≤ 1000) (hkl : KL w) : Ct Tryd.prog 52 #[kv, vs sl] w (fun v : Value => slc3 v 0 32 32) (fun v => [.row 5 v (ls vb (derL kl sl))]) := by
  refine ct_of Tryd.func52 rfl Tryd.ntmps52 rfl ?_
  refine hc_seq ?_
  refine hc_region ?_
  refine hl_y rfl rfl rfl (y_assign rfl rfl) ?_
  refine hl_nil ?_
  refine hq_then ?_
  refine hc_seq ?_
  refine hc_region ?_
  refine hl_y rfl rfl rfl (y_move rfl rfl) ?_
  refine hl_y rfl rfl rfl (y_as (y_cat (p := [111, 117, 98, 108, 105, 101, 116, 116, 101, 32]) rfl rfl rfl (by simp; omega)) (rfl : _ = vs (preL ++ sl))) ?_
  refine hl_y rfl rfl rfl (y_assign rfl rfl) ?_
  refine hl_nil ?_
  refine hq_then ?_
  refine hc_seq ?_
  refine hc_region ?_
  refine hl_i rfl rfl rfl (e_call rfl F61 rfl (fun w hw => num_Put_ct 32 2 (by omega) (by omega) w) rfl) ?_; intro y11
  refine HL.mem (fun _ h => h.setr 0 rfl (congrArg (ls vb) put_32)) ?_
  refine hl_y rfl rfl rfl (y_move rfl rfl) ?_
  refine hl_y rfl rfl rfl (y_lent rfl rfl U9 rfl) ?_
  refine hl_y rfl rfl rfl (y_conv rfl U3 U5 rfl (wrap_nb _)) ?_
  refine hl_i rfl rfl rfl (e_lit1 rfl S22 Z1_5 rfl rfl rfl) ?_; intro g15
  refine hl_i rfl rfl rfl (e_appb 1 rfl A22_5 rfl rfl rfl (rdB 0 rfl rfl rfl (by first | omega | (simp only [ls_len, ns_len, List.length_append, List.length_take, List.length_drop, List.length_replicate, List.length_cons, List.length_nil, putL_len, shaL_len, overL_len, macKey_len, hmacL_len, tgL_len, outN_len, expN_len, infoL_len, derL_len]; omega) | (simp only [ls_len, ns_len, List.length_append, List.length_take, List.length_drop, List.length_replicate, List.length_cons, List.length_nil, putL_len, shaL_len, overL_len, macKey_len, hmacL_len, tgL_len, outN_len, expN_len, infoL_len, derL_len] at *; omega))) (show _ = ls vb [UInt8.ofNat (preL ++ sl).length] from rfl) (by simp)) ?_; intro y16
  refine hl_y rfl rfl rfl (y_assign rfl rfl) ?_
  refine hl_nil ?_
  refine hq_then ?_
  refine hc_seq ?_
  refine hc_region ?_
  refine hl_y rfl rfl rfl (y_move rfl rfl) ?_
  refine hl_y rfl rfl rfl (y_move rfl rfl) ?_
  refine hl_y rfl rfl rfl (y_move rfl rfl) ?_
  refine hl_i rfl rfl rfl (e_appsb 1 rfl A22_5 U9 rfl rfl rfl (by simp [preL]; omega)) ?_; intro y21
  refine hl_i rfl rfl rfl (e_call rfl F48 rfl (fun w hw => kdf_Expand_ok kl _ (infoL sl) _ 32 (by omega) (by omega) w ((rdF hk) w hw) (by omega) ((rdR 0 rfl) w hw) (by rw [infoL_len]; omega) (hkl.below (Mm.out hw).low)) rfl) ?_; intro y22
  refine hl_y rfl rfl rfl (y_move rfl rfl) ?_
  refine hl_y rfl rfl rfl (y_extract rfl rfl rfl) ?_
  refine hl_y rfl rfl rfl (y_extract rfl rfl rfl) ?_
  refine hl_y rfl rfl rfl (y_assign rfl rfl) ?_
  refine hl_y rfl rfl rfl (y_assign rfl rfl) ?_
  refine hl_nil ?_
  refine hq_then ?_
  refine hc_seq ?_
  refine hc_region ?_
  refine hl_y rfl rfl rfl (y_move rfl rfl) ?_
  refine hl_y rfl rfl rfl (y_assign rfl rfl) ?_
  refine hl_nil ?_
  refine hq_then ?_
  refine hc_ret ?_
  exact hq_ret1 (y22) rfl (rv_tmp rfl) rfl (fun _ h => Mm.pick h [0] (by decide))

theorem r09_Derive_ct (kl : List UInt8) (kv : Value) (sl : List UInt8)  (w : World) (hk : Rd w kv (ls vb kl)) (hkm : kl.length ≤ 1000) (hsm : sl.length ≤ 1000) : Ct Tryd.prog 53 #[kv, vs sl] w (fun v : Value => slc v 0 32) (fun v => [.row 5 v (ls vb (derL kl sl))]) := by
  refine ct_of Tryd.func53 rfl Tryd.ntmps53 rfl ?_
  refine hc_seq ?_
  refine hc_region ?_
  refine hl_y rfl rfl rfl (y_assign rfl rfl) ?_
  refine hl_nil ?_
  refine hq_then ?_
  refine hc_seq ?_
  refine hc_region ?_
  refine hl_y rfl rfl rfl (y_move rfl rfl) ?_
  refine hl_y rfl rfl rfl (y_as (y_cat (p := [111, 117, 98, 108, 105, 101, 116, 116, 101, 32]) rfl rfl rfl (by simp; omega)) (rfl : _ = vs (preL ++ sl))) ?_
  refine hl_y rfl rfl rfl (y_assign rfl rfl) ?_
  refine hl_nil ?_
  refine hq_then ?_
  refine hc_seq ?_
  refine hc_region ?_
  refine hl_y rfl rfl rfl (y_move rfl rfl) ?_
  refine hl_y rfl rfl rfl (y_lent rfl rfl U9 rfl) ?_
  refine hl_y rfl rfl rfl (y_remn (q := 256) rfl rfl rfl (by first | omega | (simp only [ls_len, ns_len, List.length_append, List.length_take, List.length_drop, List.length_replicate, List.length_cons, List.length_nil, putL_len, shaL_len, overL_len, macKey_len, hmacL_len, tgL_len, outN_len, expN_len, infoL_len, derL_len]; omega) | (simp only [ls_len, ns_len, List.length_append, List.length_take, List.length_drop, List.length_replicate, List.length_cons, List.length_nil, putL_len, shaL_len, overL_len, macKey_len, hmacL_len, tgL_len, outN_len, expN_len, infoL_len, derL_len] at *; omega))) ?_
  refine hl_y rfl rfl rfl (y_conv rfl U3 U5 rfl (wrap_nb _)) ?_
  refine hl_i rfl rfl rfl (e_lit3 rfl S22 Z1_5 rfl rfl rfl rfl rfl rfl rfl) ?_; intro g15
  refine hl_y rfl rfl rfl (y_move rfl rfl) ?_
  refine hl_i rfl rfl rfl (e_s2b rfl U9 S22.1 U5 rfl) ?_; intro y17
  refine hl_i rfl rfl rfl (e_call rfl F32 rfl (fun w hw => r01_Join_ct [0, 32, UInt8.ofNat ((preL ++ sl).length % 256)] (preL ++ sl) _ _ w ((rdB 1 rfl rfl rfl (by omega)) w hw) ((rdO 0 rfl) w hw) (by simp [preL]; omega)) rfl) ?_; intro y18
  refine HL.mem (fun _ h => h.setr 0 rfl (show _ = ls vb (infoL sl) by rw [ofNat_256]; rfl)) ?_
  refine hl_y rfl rfl rfl (y_assign rfl rfl) ?_
  refine hl_nil ?_
  refine hq_then ?_
  refine hc_seq ?_
  refine hc_region ?_
  refine hl_y rfl rfl rfl (y_move rfl rfl) ?_
  refine hl_y rfl rfl rfl (y_move rfl rfl) ?_
  refine hl_i rfl rfl rfl (e_call rfl F49 rfl (fun w hw => r09_Expand_ok kl _ (infoL sl) _ 32 (by omega) (by omega) w ((rdF hk) w hw) (by omega) ((rdR 0 rfl) w hw) (by rw [infoL_len]; omega)) rfl) ?_; intro y22
  refine hl_y rfl rfl rfl (y_move rfl rfl) ?_
  refine hl_y rfl rfl rfl (y_extract rfl rfl rfl) ?_
  refine hl_y rfl rfl rfl (y_extract rfl rfl rfl) ?_
  refine hl_y rfl rfl rfl (y_assign rfl rfl) ?_
  refine hl_y rfl rfl rfl (y_assign rfl rfl) ?_
  refine hl_nil ?_
  refine hq_then ?_
  refine hc_seq ?_
  refine hc_region ?_
  refine hl_y rfl rfl rfl (y_move rfl rfl) ?_
  refine hl_y rfl rfl rfl (y_assign rfl rfl) ?_
  refine hl_nil ?_
  refine hq_then ?_
  refine hc_ret ?_
  exact hq_ret1 (y22) rfl (rv_tmp rfl) rfl (fun _ h => Mm.pick h [0] (by decide))

theorem clone_ct (l : List UInt8) (v : Value)  (w : World) (hv : Rd w v (ls vb l)) (hm : l.length ≤ 1000000) : Ct Tryd.prog 78 #[v] w (fun v : Value => v) (fun v => [.row 5 v (ls vb l)]) := by
  obtain ⟨A, cap, rfl, hcap⟩ := hv.shapeb
  refine ct_of Tryd.func78 rfl Tryd.ntmps78 rfl ?_
  refine hc_seq ?_
  refine hc_region ?_
  refine hl_y rfl rfl rfl (y_assign rfl rfl) ?_
  refine hl_nil ?_
  refine hq_then ?_
  refine hc_seq ?_
  refine hc_seq ?_
  refine hc_region ?_
  refine hl_y rfl rfl rfl (y_move rfl rfl) ?_
  refine hl_y rfl rfl rfl (y_eqnil rfl S22.1 rfl rfl) ?_
  refine hl_nil ?_
  refine hq_then ?_
  refine hc_if rfl (fun c0 => ?_) (fun c0 => ?_)
  · skip
    refine hc_seq ?_
    refine hc_region ?_
    refine hl_y rfl rfl rfl (y_assign rfl rfl) ?_
    refine hl_nil ?_
    refine hq_then ?_
    refine hc_ret ?_
    exact hq_then_ret (hq_ret1 (.slice none 0 0) rfl (rv_tmp rfl) rfl (fun _ h => (mm_nilb 5 _ h).mm (by rw [(rd_none hv c0).1])))
  · skip
    refine hc_skip ?_
    refine hq_then ?_
    refine hc_seq ?_
    refine hc_region ?_
    refine hl_i rfl rfl rfl (e_lit0 rfl S22 Z1_5) ?_; intro g5
    refine HL.mem (mm_row0 0 rfl) ?_
    refine hl_y rfl rfl rfl (y_move rfl rfl) ?_
    refine hl_i rfl rfl rfl (e_appb 0 rfl A22_5 rfl rfl rfl (rdF hv) rfl (by simp; omega)) ?_; intro y7
    refine hl_y rfl rfl rfl (y_assign rfl rfl) ?_
    refine hl_nil ?_
    refine hq_then ?_
    refine hc_ret ?_
    exact hq_ret1 (y7) rfl (rv_tmp rfl) rfl (fun _ h => h)

theorem kdf_Chain_ct (kl : List UInt8) (kv : Value) (sl : List UInt8) (i : Int) (N : Nat) (hN : (N : Int) = min (max i 0) 1000) (w : World) (hk : Rd w kv (ls vb kl)) (hkm : kl.length ≤ 1000) (hsm : sl.length ≤ 1000) (hkl : KL w) : Ct Tryd.prog 51 #[kv, vs sl, .int .i64 i] w (fun y : {y : Value × Value // Cut y.1 y.2 (chL kl sl N)} => y.1.1) (fun y => [.row 5 y.1.2 (ls vb (chL kl sl N))]) := by
  refine ct_of Tryd.func51 rfl Tryd.ntmps51 rfl ?_
  refine hc_seq ?_
  refine hc_region ?_
  refine hl_y rfl rfl rfl (y_assign rfl rfl) ?_
  refine hl_nil ?_
  refine hq_then ?_
  refine hc_seq ?_
  refine hc_region ?_
  refine hl_y rfl rfl rfl (y_move rfl rfl) ?_
  refine hl_i rfl rfl rfl (e_call rfl F78 rfl (fun w hw => clone_ct kl _ w ((rdF hk) w hw) (by first | omega | (simp only [List.length_append, List.length_take, List.length_drop, List.length_replicate, List.length_cons, List.length_nil, putL_len, shaL_len, overL_len, macKey_len, hmacL_len, tgL_len, outN_len, expN_len, infoL_len, derL_len]; omega) | (simp only [List.length_append, List.length_take, List.length_drop, List.length_replicate, List.length_cons, List.length_nil, putL_len, shaL_len, overL_len, macKey_len, hmacL_len, tgL_len, outN_len, expN_len, infoL_len, derL_len] at *; omega))) rfl) ?_; intro y9
  refine hl_y rfl rfl rfl (y_assign rfl rfl) ?_
  refine hl_nil ?_
  refine hq_then ?_
  refine hc_seq ?_
  refine hc_seq ?_
  refine hc_region ?_
  refine hl_y rfl rfl rfl (y_move rfl rfl) ?_
  refine hl_y rfl rfl rfl (y_maxi rfl rfl rfl) ?_
  refine hl_y rfl rfl rfl (y_as (y_mini rfl rfl rfl) (congrArg (Value.int .i64) hN.symm)) ?_
  refine hl_y rfl rfl rfl (y_move (v := vi 0) rfl rfl) ?_
  refine hl_nil ?_
  refine hq_then ?_
  refine hc_block ?_
  refine hc_loop3 (fun k o v => k ≤ N ∧ Cut o v (chL kl sl k)) (fun k o v => N - k) (fun k o v => [(1, vs sl), (7, o), (12, vi N), (13, vi k)]) (fun k o v => Mm w [.row 5 v (ls vb (chL kl sl k))]) (0) (y9) (y9) ⟨by omega, .inl rfl⟩ ⟨rfl, rfl, lk_int rfl (by omega), lk_int rfl (by omega), trivial⟩ (fun _ h => h) ?_
  intro k o v hk
  obtain ⟨hk, hc⟩ := hk
  refine hc_seq ?_
  refine hc_region ?_
  refine hl_y rfl rfl rfl (y_lssn rfl rfl rfl ) ?_
  refine hl_nil ?_
  refine hq_then ?_
  refine hc_seq ?_
  refine hc_if rfl (fun c0 => ?_) (fun c0 => ?_)
  · replace c0 := of_decide_eq_true c0
    refine hc_skip ?_
    refine hq_then ?_
    refine hc_seq ?_
    refine hc_block ?_
    refine hc_region ?_
    refine hl_y rfl rfl rfl (y_move rfl rfl) ?_
    refine hl_y rfl rfl rfl (y_move rfl rfl) ?_
    refine hl_i rfl rfl rfl (e_call rfl F52 rfl (fun w hw => kdf_Derive_ct (chL kl sl k) _ sl w ((rdC 0 rfl hc) w hw) (chL_le _ _ _ (by omega)) (by omega) (hkl.below (Mm.out hw).low)) rfl) ?_; intro y17
    refine hl_y rfl rfl rfl (y_assign rfl rfl) ?_
    refine hl_nil ?_
    refine hq_in (hq_then ?_)
    refine hc_region ?_
    refine hl_y rfl rfl rfl (y_addn (q := 1) rfl rfl rfl (by first | omega | (simp only [ls_len, ns_len, List.length_append, List.length_take, List.length_drop, List.length_replicate, List.length_cons, List.length_nil, putL_len, shaL_len, overL_len, macKey_len, hmacL_len, tgL_len, outN_len, expN_len, infoL_len, derL_len]; omega) | (simp only [ls_len, ns_len, List.length_append, List.length_take, List.length_drop, List.length_replicate, List.length_cons, List.length_nil, putL_len, shaL_len, overL_len, macKey_len, hmacL_len, tgL_len, outN_len, expN_len, infoL_len, derL_len] at *; omega))) ?_
    refine hl_y rfl rfl rfl (y_move rfl rfl) ?_
    refine hl_nil ?_
    exact hq_round3 (k + 1) (slc3 y17 0 32 32) (y17) (by omega) ⟨by omega, .inr ⟨chL_32 _ _ _, .inl rfl⟩⟩ ⟨rfl, rfl, lk_int rfl (by omega), lk_int rfl (by omega), trivial⟩ (fun _ h => Mm.pick h [0] (by decide))
  · replace c0 := of_decide_eq_false c0
    obtain rfl : k = N := by omega
    refine hc_exit ?_
    refine hq_then_exit (hq_loop_exit3 (hq_in_same (hq_then ?_)))
    refine hc_seq ?_
    refine hc_region ?_
    refine hl_y rfl rfl rfl (y_move rfl rfl) ?_
    refine hl_y rfl rfl rfl (y_assign rfl rfl) ?_
    refine hl_nil ?_
    refine hq_then ?_
    refine hc_ret ?_
    exact hq_ret1 (⟨(o, v), hc⟩) rfl (rv_tmp rfl) rfl (fun _ h => h)

theorem r09_Chain_ct (kl : List UInt8) (kv : Value) (sl : List UInt8) (i : Int) (N : Nat) (hN : (N : Int) = min (max i 0) 1000) (w : World) (hk : Rd w kv (ls vb kl)) (hkm : kl.length ≤ 1000) (hsm : sl.length ≤ 1000) : Ct Tryd.prog 56 #[kv, vs sl, .int .i64 i] w (fun y : {y : Value × Value // Cut y.1 y.2 (chL kl sl N)} => y.1.1) (fun y => [.row 5 y.1.2 (ls vb (chL kl sl N))]) := by
  refine ct_of Tryd.func56 rfl Tryd.ntmps56 rfl ?_
  refine hc_seq ?_
  refine hc_region ?_
  refine hl_y rfl rfl rfl (y_assign rfl rfl) ?_
  refine hl_nil ?_
  refine hq_then ?_
  refine hc_seq ?_
  refine hc_region ?_
  refine hl_i rfl rfl rfl (e_lit0 rfl S22 Z1_5) ?_; intro g9
  refine HL.mem (mm_row0 0 rfl) ?_
  refine hl_y rfl rfl rfl (y_move rfl rfl) ?_
  refine hl_i rfl rfl rfl (e_appb 0 rfl A22_5 rfl rfl rfl (rdF hk) rfl (by simp; omega)) ?_; intro y11
  refine hl_y rfl rfl rfl (y_assign rfl rfl) ?_
  refine hl_nil ?_
  refine hq_then ?_
  refine hc_seq ?_
  refine hc_seq ?_
  refine hc_region ?_
  refine hl_y rfl rfl rfl (y_assign (v := vi 0) rfl rfl) ?_
  refine hl_nil ?_
  refine hq_then ?_
  refine hc_block ?_
  refine hc_loop3 (fun k o v => k ≤ N ∧ Cut o v (chL kl sl k)) (fun k o v => N - k) (fun k o v => [(1, vs sl), (7, o), (2, .int .i64 i), (8, vi k)]) (fun k o v => Mm w [.row 5 v (ls vb (chL kl sl k))]) (0) (y11) (y11) ⟨by omega, .inl rfl⟩ ⟨rfl, rfl, lk_int rfl (by omega), lk_int rfl (by omega), trivial⟩ (fun _ h => h) ?_
  intro k o v hk
  obtain ⟨hk, hc⟩ := hk
  refine hc_seq ?_
  refine hc_seq ?_
  rcases Decidable.em ((k : Int) < i) with c1 | c1
  · skip
    rcases Decidable.em (k < 1000) with c2 | c2
    · skip
      refine hc_region ?_
      refine hl_y rfl rfl rfl (y_move rfl rfl) ?_
      refine hl_y rfl rfl rfl (y_move rfl rfl) ?_
      refine hl_y rfl rfl rfl (y_as (y_lssi rfl rfl rfl ) (congrArg Value.bool (decide_eq_true (c1)))) ?_
      refine hl_y rfl rfl rfl (y_move rfl rfl) ?_
      refine hl_yg 3 15 true rfl rfl rfl rfl rfl (y_move rfl rfl) ?_
      refine hl_yg 3 15 true rfl rfl rfl rfl rfl (y_as (y_lssn (q := 1000) rfl rfl rfl ) (congrArg Value.bool (decide_eq_true (c2)))) ?_
      refine hl_y rfl rfl rfl (y_pick (b := true) rfl rfl rfl) ?_
      refine hl_nil ?_
      refine hq_then ?_
      refine hc_ifT rfl ?_
      refine hc_skip ?_
      refine hq_then ?_
      refine hc_seq ?_
      refine hc_block ?_
      refine hc_region ?_
      refine hl_y rfl rfl rfl (y_move rfl rfl) ?_
      refine hl_y rfl rfl rfl (y_move rfl rfl) ?_
      refine hl_i rfl rfl rfl (e_call rfl F53 rfl (fun w hw => r09_Derive_ct (chL kl sl k) _ sl w ((rdC 0 rfl hc) w hw) (chL_le _ _ _ (by omega)) (by omega)) rfl) ?_; intro y23
      refine hl_y rfl rfl rfl (y_assign rfl rfl) ?_
      refine hl_nil ?_
      refine hq_in (hq_then ?_)
      refine hc_region ?_
      refine hl_y rfl rfl rfl (y_move rfl rfl) ?_
      refine hl_y rfl rfl rfl (y_addn (q := 1) rfl rfl rfl (by first | omega | (simp only [ls_len, ns_len, List.length_append, List.length_take, List.length_drop, List.length_replicate, List.length_cons, List.length_nil, putL_len, shaL_len, overL_len, macKey_len, hmacL_len, tgL_len, outN_len, expN_len, infoL_len, derL_len]; omega) | (simp only [ls_len, ns_len, List.length_append, List.length_take, List.length_drop, List.length_replicate, List.length_cons, List.length_nil, putL_len, shaL_len, overL_len, macKey_len, hmacL_len, tgL_len, outN_len, expN_len, infoL_len, derL_len] at *; omega))) ?_
      refine hl_y rfl rfl rfl (y_assign rfl rfl) ?_
      refine hl_nil ?_
      exact hq_round3 (k + 1) (slc y23 0 32) (y23) (by omega) ⟨by omega, .inr ⟨chL_32 _ _ _, .inr rfl⟩⟩ ⟨rfl, rfl, lk_int rfl (by omega), lk_int rfl (by omega), trivial⟩ (fun _ h => Mm.pick h [0] (by decide))
    · skip
      refine hc_region ?_
      refine hl_y rfl rfl rfl (y_move rfl rfl) ?_
      refine hl_y rfl rfl rfl (y_move rfl rfl) ?_
      refine hl_y rfl rfl rfl (y_as (y_lssi rfl rfl rfl ) (congrArg Value.bool (decide_eq_true (c1)))) ?_
      refine hl_y rfl rfl rfl (y_move rfl rfl) ?_
      refine hl_yg 3 15 true rfl rfl rfl rfl rfl (y_move rfl rfl) ?_
      refine hl_yg 3 15 true rfl rfl rfl rfl rfl (y_as (y_lssn (q := 1000) rfl rfl rfl ) (congrArg Value.bool (decide_eq_false (c2)))) ?_
      refine hl_y rfl rfl rfl (y_pick (b := true) rfl rfl rfl) ?_
      refine hl_nil ?_
      refine hq_then ?_
      refine hc_ifF rfl ?_
      refine hc_exit ?_
      refine hq_then_exit (hq_loop_exit3 (hq_in_same (hq_then ?_)))
      refine hc_seq ?_
      obtain rfl : k = N := by omega
      refine hc_region ?_
      refine hl_y rfl rfl rfl (y_move rfl rfl) ?_
      refine hl_y rfl rfl rfl (y_assign rfl rfl) ?_
      refine hl_nil ?_
      refine hq_then ?_
      refine hc_ret ?_
      exact hq_ret1 (⟨(o, v), hc⟩) rfl (rv_tmp rfl) rfl (fun _ h => h)
  · skip
    refine hc_region ?_
    refine hl_y rfl rfl rfl (y_move rfl rfl) ?_
    refine hl_y rfl rfl rfl (y_move rfl rfl) ?_
    refine hl_y rfl rfl rfl (y_as (y_lssi rfl rfl rfl ) (congrArg Value.bool (decide_eq_false (c1)))) ?_
    refine hl_y rfl rfl rfl (y_move rfl rfl) ?_
    refine hl_no 3 15 true false rfl rfl rfl rfl rfl rfl ?_
    refine hl_no 3 15 true false rfl rfl rfl rfl rfl rfl ?_
    refine hl_y rfl rfl rfl (y_pick (b := false) rfl rfl rfl) ?_
    refine hl_nil ?_
    refine hq_then ?_
    refine hc_ifF rfl ?_
    refine hc_exit ?_
    refine hq_then_exit (hq_loop_exit3 (hq_in_same (hq_then ?_)))
    refine hc_seq ?_
    obtain rfl : k = N := by omega
    refine hc_region ?_
    refine hl_y rfl rfl rfl (y_move rfl rfl) ?_
    refine hl_y rfl rfl rfl (y_assign rfl rfl) ?_
    refine hl_nil ?_
    refine hq_then ?_
    refine hc_ret ?_
    exact hq_ret1 (⟨(o, v), hc⟩) rfl (rv_tmp rfl) rfl (fun _ h => h)

end Go.Proofs.YtcdidapkpfnphaaDoor
