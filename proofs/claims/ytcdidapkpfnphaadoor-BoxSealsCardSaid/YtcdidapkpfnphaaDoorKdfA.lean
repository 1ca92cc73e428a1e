/- Bytes expanded of keys: what each call gives back. -/
import Derived.Test.YtcdidapkpfnphaaDoorMacC
import Derived.Test.YtcdidapkpfnphaaDoorSpecKdf
namespace Go.Proofs.YtcdidapkpfnphaaDoor
open Go.RowKit
set_option linter.unusedVariables false
set_option linter.unusedSimpArgs false
set_option maxRecDepth 100000
theorem kdf_next_ct (kl ll il : List UInt8) (kv lv iv : Value) (g1 g2 g3 n : Nat) (w : World) (hg1 : w.cell? ⟨g1, 0, none⟩ = some kv) (hg2 : w.cell? ⟨g2, 0, none⟩ = some lv) (hg3 : w.cell? ⟨g3, 0, none⟩ = some iv) (hk : Rd w kv (ls vb kl)) (hl : Rd w lv (ls vb ll)) (hi : Rd w iv (ls vb il)) (hkm : kl.length ≤ 1000) (hlm : ll.length ≤ 32) (him : il.length ≤ 20000) (hkl : KL w) : Ct Tryd.prog 77 #[vi n, .pointer (some ⟨g1, 0, none⟩), .pointer (some ⟨g2, 0, none⟩), .pointer (some ⟨g3, 0, none⟩)] w (fun v : Value => v) (fun v => [.row 5 v (ls vb (hmacL kl (ll ++ il ++ [UInt8.ofNat n])))]) := by
  refine ct_of Tryd.func77 rfl Tryd.ntmps77 rfl ?_
  refine hc_seq ?_
  refine hc_region ?_
  refine hl_y rfl rfl rfl (y_assign rfl rfl) ?_
  refine hl_nil ?_
  refine hq_then ?_
  refine hc_seq ?_
  refine hc_drawP [] follows_mixed ?_
  refine hh_y 0 rfl rfl rfl rfl (by kernel_rfl) (by kernel_rfl) (by kernel_rfl) (fun _ h => Mm.pick h [] (by decide)) (y_ldg rfl O22 rfl hg1) ?_
  refine hh_y 1 rfl rfl rfl rfl (by kernel_rfl) (by kernel_rfl) (by kernel_rfl) (fun _ h => Mm.pick h [] (by decide)) (y_ldg rfl O22 rfl hg2) ?_
  refine hh_y 2 rfl rfl rfl rfl (by kernel_rfl) (by kernel_rfl) (by kernel_rfl) (fun _ h => Mm.pick h [] (by decide)) (y_ldg rfl O22 rfl hg3) ?_
  refine hh_y 5 rfl rfl rfl rfl (by kernel_rfl) (by kernel_rfl) (by kernel_rfl) (fun _ h => Mm.pick h [] (by decide)) (y_move rfl rfl) ?_
  refine hh_y 6 rfl rfl rfl rfl (by kernel_rfl) (by kernel_rfl) (by kernel_rfl) (fun _ h => Mm.pick h [] (by decide)) (y_conv rfl U3 U5 rfl (wrap_nb _)) ?_
  refine hh_or2 3 7 (by kernel_rfl) ?_ ?_
  · skip
    refine HO.pre (RdM.one (rdF hl)) ?_; intro o9_0
    refine HO.pre (RdM.one (rdF hi)) ?_; intro o9_1
    refine ho_i 3 rfl rfl rfl rfl (e_lit2 rfl S75 Z1_22 rfl rfl rfl o9_0 o9_1) (fun _ _ h => Mm.pick h [] (by decide)) ?_; intro g9
    refine hh_or2 4 7 (by kernel_rfl) ?_ ?_
    · skip
      refine ho_i 4 rfl rfl rfl rfl (e_call rfl F69 rfl (fun w hw => concat_ct ([(_, ll), (_, il)]) _ w ((rdB 0 rfl rfl rfl (by omega)) w hw) (List.forall_mem_cons.2 ⟨(rdF hl : RdM _ _ (ls vb ll)) w hw, (List.forall_mem_cons.2 ⟨(rdF hi : RdM _ _ (ls vb il)) w hw, (fun _ h => absurd h (by simp))⟩)⟩) (by simp only [catL, List.map_cons, List.map_nil, List.flatten_cons, List.flatten_nil, List.length_append, List.length_take, List.length_drop, List.length_replicate, List.length_cons, List.length_nil, putL_len, shaL_len, overL_len, macKey_len, hmacL_len, tgL_len, outN_len, expN_len, infoL_len, derL_len]; omega) (by simp)) rfl) (fun _ _ h => Mm.pick h [] (by decide)) ?_; intro y10
      refine HH.mem (fun _ h => h.setr 0 rfl (congrArg (ls vb) (catL2 _ _ _ _))) ?_
      refine hh_i 7 rfl rfl rfl rfl (by kernel_rfl) (e_lit1 rfl S22 Z1_5 rfl rfl rfl) (fun _ _ h => Mm.pick h [] (by decide)) ?_; intro g13
      refine hh_i 8 rfl rfl rfl rfl (by kernel_rfl) (e_appb 1 rfl A22_5 rfl rfl rfl (rdB 0 rfl rfl rfl (by first | omega | (simp only [ls_len, ns_len, List.length_append, List.length_take, List.length_drop, List.length_replicate, List.length_cons, List.length_nil, putL_len, shaL_len, overL_len, macKey_len, hmacL_len, tgL_len, outN_len, expN_len, infoL_len, derL_len]; omega) | (simp only [ls_len, ns_len, List.length_append, List.length_take, List.length_drop, List.length_replicate, List.length_cons, List.length_nil, putL_len, shaL_len, overL_len, macKey_len, hmacL_len, tgL_len, outN_len, expN_len, infoL_len, derL_len] at *; omega))) (show _ = ls vb [UInt8.ofNat n] from rfl) (by simp; omega)) (fun _ _ h => Mm.pick h [] (by decide)) ?_; intro y14
      refine hh_i 9 rfl rfl rfl rfl (by kernel_rfl) (e_call rfl F41 rfl (fun w hw => mac_Of_ct kl _ (ll ++ il ++ [UInt8.ofNat n]) _ w ((rdF hk) w hw) (by first | omega | (simp only [List.length_append, List.length_take, List.length_drop, List.length_replicate, List.length_cons, List.length_nil, putL_len, shaL_len, overL_len, macKey_len, hmacL_len, tgL_len, outN_len, expN_len, infoL_len, derL_len]; omega) | (simp only [List.length_append, List.length_take, List.length_drop, List.length_replicate, List.length_cons, List.length_nil, putL_len, shaL_len, overL_len, macKey_len, hmacL_len, tgL_len, outN_len, expN_len, infoL_len, derL_len] at *; omega)) ((rdR 1 rfl) w hw) (by first | omega | (simp only [List.length_append, List.length_take, List.length_drop, List.length_replicate, List.length_cons, List.length_nil, putL_len, shaL_len, overL_len, macKey_len, hmacL_len, tgL_len, outN_len, expN_len, infoL_len, derL_len]; omega) | (simp only [List.length_append, List.length_take, List.length_drop, List.length_replicate, List.length_cons, List.length_nil, putL_len, shaL_len, overL_len, macKey_len, hmacL_len, tgL_len, outN_len, expN_len, infoL_len, derL_len] at *; omega)) (hkl.below (Mm.out hw).low)) rfl) (fun _ _ h => Mm.pick h [] (by decide)) ?_; intro y15
      refine hh_y 10 rfl rfl rfl rfl (by kernel_rfl) (by kernel_rfl) (by kernel_rfl) (fun _ h => Mm.pick h [] (by decide)) (y_assign rfl rfl) ?_
      refine hh_done (by kernel_rfl) ?_
      refine hq_then ?_
      refine hc_ret ?_
      exact hq_ret1 (y15) rfl (rv_tmp rfl) rfl (fun _ h => Mm.pick h [0] (by decide))
    · skip
      refine ho_i 7 rfl rfl rfl rfl (e_lit1 rfl S22 Z1_5 rfl rfl rfl) (fun _ _ h => Mm.pick h [] (by decide)) ?_; intro g13
      refine hh_i 4 rfl rfl rfl rfl (by kernel_rfl) (e_call rfl F69 rfl (fun w hw => concat_ct ([(_, ll), (_, il)]) _ w ((rdB 1 rfl rfl rfl (by omega)) w hw) (List.forall_mem_cons.2 ⟨(rdF hl : RdM _ _ (ls vb ll)) w hw, (List.forall_mem_cons.2 ⟨(rdF hi : RdM _ _ (ls vb il)) w hw, (fun _ h => absurd h (by simp))⟩)⟩) (by simp only [catL, List.map_cons, List.map_nil, List.flatten_cons, List.flatten_nil, List.length_append, List.length_take, List.length_drop, List.length_replicate, List.length_cons, List.length_nil, putL_len, shaL_len, overL_len, macKey_len, hmacL_len, tgL_len, outN_len, expN_len, infoL_len, derL_len]; omega) (by simp)) rfl) (fun _ _ h => Mm.pick h [] (by decide)) ?_; intro y10
      refine HH.mem (fun _ h => h.setr 0 rfl (congrArg (ls vb) (catL2 _ _ _ _))) ?_
      refine hh_i 8 rfl rfl rfl rfl (by kernel_rfl) (e_appb 0 rfl A22_5 rfl rfl rfl (rdB 1 rfl rfl rfl (by first | omega | (simp only [ls_len, ns_len, List.length_append, List.length_take, List.length_drop, List.length_replicate, List.length_cons, List.length_nil, putL_len, shaL_len, overL_len, macKey_len, hmacL_len, tgL_len, outN_len, expN_len, infoL_len, derL_len]; omega) | (simp only [ls_len, ns_len, List.length_append, List.length_take, List.length_drop, List.length_replicate, List.length_cons, List.length_nil, putL_len, shaL_len, overL_len, macKey_len, hmacL_len, tgL_len, outN_len, expN_len, infoL_len, derL_len] at *; omega))) (show _ = ls vb [UInt8.ofNat n] from rfl) (by simp; omega)) (fun _ _ h => Mm.pick h [] (by decide)) ?_; intro y14
      refine hh_i 9 rfl rfl rfl rfl (by kernel_rfl) (e_call rfl F41 rfl (fun w hw => mac_Of_ct kl _ (ll ++ il ++ [UInt8.ofNat n]) _ w ((rdF hk) w hw) (by first | omega | (simp only [List.length_append, List.length_take, List.length_drop, List.length_replicate, List.length_cons, List.length_nil, putL_len, shaL_len, overL_len, macKey_len, hmacL_len, tgL_len, outN_len, expN_len, infoL_len, derL_len]; omega) | (simp only [List.length_append, List.length_take, List.length_drop, List.length_replicate, List.length_cons, List.length_nil, putL_len, shaL_len, overL_len, macKey_len, hmacL_len, tgL_len, outN_len, expN_len, infoL_len, derL_len] at *; omega)) ((rdR 0 rfl) w hw) (by first | omega | (simp only [List.length_append, List.length_take, List.length_drop, List.length_replicate, List.length_cons, List.length_nil, putL_len, shaL_len, overL_len, macKey_len, hmacL_len, tgL_len, outN_len, expN_len, infoL_len, derL_len]; omega) | (simp only [List.length_append, List.length_take, List.length_drop, List.length_replicate, List.length_cons, List.length_nil, putL_len, shaL_len, overL_len, macKey_len, hmacL_len, tgL_len, outN_len, expN_len, infoL_len, derL_len] at *; omega)) (hkl.below (Mm.out hw).low)) rfl) (fun _ _ h => Mm.pick h [] (by decide)) ?_; intro y15
      refine hh_y 10 rfl rfl rfl rfl (by kernel_rfl) (by kernel_rfl) (by kernel_rfl) (fun _ h => Mm.pick h [] (by decide)) (y_assign rfl rfl) ?_
      refine hh_done (by kernel_rfl) ?_
      refine hq_then ?_
      refine hc_ret ?_
      exact hq_ret1 (y15) rfl (rv_tmp rfl) rfl (fun _ h => Mm.pick h [0] (by decide))
  · skip
    refine ho_i 7 rfl rfl rfl rfl (e_lit1 rfl S22 Z1_5 rfl rfl rfl) (fun _ _ h => Mm.pick h [] (by decide)) ?_; intro g13
    refine HH.pre (RdM.one (rdF hl)) ?_; intro o9_0
    refine HH.pre (RdM.one (rdF hi)) ?_; intro o9_1
    refine hh_i 3 rfl rfl rfl rfl (by kernel_rfl) (e_lit2 rfl S75 Z1_22 rfl rfl rfl o9_0 o9_1) (fun _ _ h => Mm.pick h [] (by decide)) ?_; intro g9
    refine hh_i 4 rfl rfl rfl rfl (by kernel_rfl) (e_call rfl F69 rfl (fun w hw => concat_ct ([(_, ll), (_, il)]) _ w ((rdB 0 rfl rfl rfl (by omega)) w hw) (List.forall_mem_cons.2 ⟨(rdF hl : RdM _ _ (ls vb ll)) w hw, (List.forall_mem_cons.2 ⟨(rdF hi : RdM _ _ (ls vb il)) w hw, (fun _ h => absurd h (by simp))⟩)⟩) (by simp only [catL, List.map_cons, List.map_nil, List.flatten_cons, List.flatten_nil, List.length_append, List.length_take, List.length_drop, List.length_replicate, List.length_cons, List.length_nil, putL_len, shaL_len, overL_len, macKey_len, hmacL_len, tgL_len, outN_len, expN_len, infoL_len, derL_len]; omega) (by simp)) rfl) (fun _ _ h => Mm.pick h [] (by decide)) ?_; intro y10
    refine HH.mem (fun _ h => h.setr 0 rfl (congrArg (ls vb) (catL2 _ _ _ _))) ?_
    refine hh_i 8 rfl rfl rfl rfl (by kernel_rfl) (e_appb 0 rfl A22_5 rfl rfl rfl (rdB 2 rfl rfl rfl (by first | omega | (simp only [ls_len, ns_len, List.length_append, List.length_take, List.length_drop, List.length_replicate, List.length_cons, List.length_nil, putL_len, shaL_len, overL_len, macKey_len, hmacL_len, tgL_len, outN_len, expN_len, infoL_len, derL_len]; omega) | (simp only [ls_len, ns_len, List.length_append, List.length_take, List.length_drop, List.length_replicate, List.length_cons, List.length_nil, putL_len, shaL_len, overL_len, macKey_len, hmacL_len, tgL_len, outN_len, expN_len, infoL_len, derL_len] at *; omega))) (show _ = ls vb [UInt8.ofNat n] from rfl) (by simp; omega)) (fun _ _ h => Mm.pick h [] (by decide)) ?_; intro y14
    refine hh_i 9 rfl rfl rfl rfl (by kernel_rfl) (e_call rfl F41 rfl (fun w hw => mac_Of_ct kl _ (ll ++ il ++ [UInt8.ofNat n]) _ w ((rdF hk) w hw) (by first | omega | (simp only [List.length_append, List.length_take, List.length_drop, List.length_replicate, List.length_cons, List.length_nil, putL_len, shaL_len, overL_len, macKey_len, hmacL_len, tgL_len, outN_len, expN_len, infoL_len, derL_len]; omega) | (simp only [List.length_append, List.length_take, List.length_drop, List.length_replicate, List.length_cons, List.length_nil, putL_len, shaL_len, overL_len, macKey_len, hmacL_len, tgL_len, outN_len, expN_len, infoL_len, derL_len] at *; omega)) ((rdR 0 rfl) w hw) (by first | omega | (simp only [List.length_append, List.length_take, List.length_drop, List.length_replicate, List.length_cons, List.length_nil, putL_len, shaL_len, overL_len, macKey_len, hmacL_len, tgL_len, outN_len, expN_len, infoL_len, derL_len]; omega) | (simp only [List.length_append, List.length_take, List.length_drop, List.length_replicate, List.length_cons, List.length_nil, putL_len, shaL_len, overL_len, macKey_len, hmacL_len, tgL_len, outN_len, expN_len, infoL_len, derL_len] at *; omega)) (hkl.below (Mm.out hw).low)) rfl) (fun _ _ h => Mm.pick h [] (by decide)) ?_; intro y15
    refine hh_y 10 rfl rfl rfl rfl (by kernel_rfl) (by kernel_rfl) (by kernel_rfl) (fun _ h => Mm.pick h [] (by decide)) (y_assign rfl rfl) ?_
    refine hh_done (by kernel_rfl) ?_
    refine hq_then ?_
    refine hc_ret ?_
    exact hq_ret1 (y15) rfl (rv_tmp rfl) rfl (fun _ h => Mm.pick h [0] (by decide))

theorem kdf_Expand_ok (kl : List UInt8) (kv : Value) (il : List UInt8) (iv : Value) (size : Nat) (h1 : 1 ≤ size) (h2 : size ≤ 8160) (w : World) (hk : Rd w kv (ls vb kl)) (hkm : kl.length ≤ 1000) (hi : Rd w iv (ls vb il)) (him : il.length ≤ 20000) (hkl : KL w) : Ct Tryd.prog 48 #[kv, iv, vi size] w (fun v : Value => .tuple #[slc3 v 0 size size, vi 0]) (fun v => [.row 5 v (ls vb (outN kl il (tgs size)))]) := by
  refine ct_of Tryd.func48 rfl Tryd.ntmps48 rfl ?_
  refine hc_seq ?_
  refine hc_region ?_
  refine hl_i rfl rfl rfl (e_box1 rfl rfl (Rd.one hk)) ?_; intro g3
  refine hl_i rfl rfl rfl (e_box1 rfl rfl (Rd.one hi)) ?_; intro g4
  refine hl_y rfl rfl rfl (y_assign rfl rfl) ?_
  refine hl_y rfl rfl rfl (y_assign (v := vi 0) rfl rfl) ?_
  refine hl_nil ?_
  refine hq_then ?_
  refine hc_scope ?_
  refine hc_seq ?_
  refine hc_seq ?_
  refine hc_region ?_
  refine hl_y rfl rfl rfl (y_move rfl rfl) ?_
  refine hl_y rfl rfl rfl (y_as (y_lssn (q := 1) rfl rfl rfl ) (congrArg Value.bool (decide_eq_false (by omega)))) ?_
  refine hl_y rfl rfl rfl (y_move rfl rfl) ?_
  refine hl_yg 2 13 false rfl rfl rfl rfl rfl (y_move rfl rfl) ?_
  refine hl_yg 2 13 false rfl rfl rfl rfl rfl (y_as (y_gtrn (q := 8160) rfl rfl rfl ) (congrArg Value.bool (decide_eq_false (by omega)))) ?_
  refine hl_y rfl rfl rfl (y_pick (b := false) rfl rfl rfl) ?_
  refine hl_nil ?_
  refine hq_then ?_
  refine hc_ifF rfl ?_
  refine hc_skip ?_
  refine hq_then ?_
  refine hc_seq ?_
  refine hc_region ?_
  refine hl_i rfl rfl rfl (e_alloc rfl Z22) ?_; intro g8
  refine hl_nil ?_
  refine hq_then ?_
  refine hc_seq ?_
  refine hc_region ?_
  refine hl_y rfl rfl rfl (y_func (vs := #[.pointer (some ⟨g3, 0, none⟩), .pointer (some ⟨g8, 0, none⟩), .pointer (some ⟨g4, 0, none⟩)]) rfl rfl) ?_
  refine hl_y rfl rfl rfl (y_assign rfl rfl) ?_
  refine hl_nil ?_
  refine hq_then ?_
  refine hc_seq ?_
  refine hc_label ?_
  refine hq_then ?_
  refine hc_seq ?_
  refine hc_seq ?_
  refine hc_region ?_
  refine hl_y rfl rfl rfl (y_assign (v := vi 1) rfl rfl) ?_
  refine hl_nil ?_
  refine hq_then ?_
  refine hc_block ?_
  refine hc_loop3 (fun n v u => 32 * n < size) (fun n v u => size - 32 * n) (fun n v u => [(2, vi size), (6, v), (8, .pointer (some ⟨g8, 0, none⟩)), (9, .func (.func 77) #[] #[.pointer (some ⟨g3, 0, none⟩), .pointer (some ⟨g8, 0, none⟩), .pointer (some ⟨g4, 0, none⟩)]), (10, vi (n + 1))]) (fun n v u => Mm w [.blk g8 22 [u], .row 5 u (ls vb (tgL kl il n)), .row 5 v (ls vb (outN kl il n)), .blk g4 22 [iv], .blk g3 22 [kv]]) (0) (.slice none 0 0) (.slice none 0 0) (by omega) ⟨lk_int rfl (by omega), rfl, rfl, rfl, lk_int rfl (by omega), trivial⟩ (fun _ h => Mm.pick (mm_nilb 5 _ (mm_nilb 5 _ h)) [2, 0, 1, 3, 4] (by decide)) ?_
  intro n v u hn
  refine hc_seq ?_
  refine hc_block ?_
  refine hc_seq ?_
  refine hc_region ?_
  refine hl_y rfl rfl rfl (y_move rfl rfl) ?_
  refine hl_y rfl rfl rfl (y_move rfl rfl) ?_
  refine hl_i rfl rfl rfl (e_callC rfl F77 rfl (fun w hw => kdf_next_ct kl (tgL kl il n) il _ _ _ g3 g8 g4 (n + 1) w (blk_cell hw 4 rfl rfl) (blk_cell hw 0 rfl rfl) (blk_cell hw 3 rfl rfl) (hk.below (Mm.out hw).low) ((rdR 1 rfl) w hw) (hi.below (Mm.out hw).low) (by omega) (tgL_le _ _ _) (by omega) (hkl.below (Mm.out hw).low)) rfl) ?_; intro y22
  refine hl_i0 rfl rfl (e_str 1 0 rfl O22.2 rfl rfl rfl rfl (by simp)) ?_; intro _
  refine hl_nil ?_
  refine hq_then ?_
  refine hc_seq ?_
  refine hc_region ?_
  refine hl_y rfl rfl rfl (y_move rfl rfl) ?_
  refine hl_y rfl rfl rfl (y_ld 1 rfl O22 rfl rfl rfl) ?_
  refine hl_i rfl rfl rfl (e_appb 3 rfl A22_5 rfl rfl rfl (rdR 0 rfl) rfl (by simp only [outN_len, hmacL_len, tgL_len]; omega)) ?_; intro y25
  refine hl_y rfl rfl rfl (y_assign rfl rfl) ?_
  refine hl_nil ?_
  refine hq_then ?_
  refine hc_seq ?_
  refine hc_region ?_
  refine hl_y rfl rfl rfl (y_move rfl rfl) ?_
  refine hl_y rfl rfl rfl (y_lenE (32 * (n + 1)) rfl rfl S22 rfl (rdR 3 rfl) (by rw [ls_len]; exact outN_len _ _ (n + 1))) ?_
  refine hl_y rfl rfl rfl (y_move rfl rfl) ?_
  refine hl_y rfl rfl rfl (y_geqn rfl rfl rfl ) ?_
  refine hl_nil ?_
  refine hq_then ?_
  refine hc_if rfl (fun c1 => ?_) (fun c1 => ?_)
  · replace c1 := of_decide_eq_true c1
    refine hc_exit ?_
    refine hq_in_other rfl (hq_then_exit (hq_loop_exit3 (hq_in_same (hq_then ?_))))
    refine hc_seq ?_
    refine hc_region ?_
    refine hl_y rfl rfl rfl (y_move rfl rfl) ?_
    refine hl_y rfl rfl rfl (y_move rfl rfl) ?_
    refine hl_y rfl rfl rfl (y_move rfl rfl) ?_
    refine hl_y rfl rfl rfl (y_slc3 rfl S22 rfl (rdR 3 rfl) rfl rfl (by omega) (by simp only [ls_len, List.length_append, outN_len, hmacL_len, tgL_len]; omega)) ?_
    refine hl_y rfl rfl rfl (y_assign rfl rfl) ?_
    refine hl_y rfl rfl rfl (y_assign (v := vi 0) rfl rfl) ?_
    refine hl_nil ?_
    refine hq_then ?_
    refine hc_ret ?_
    exact hq_scope_ret (hq_ret2 (y25) rfl (rv_tmp rfl) (rv_tmp rfl) rfl (fun _ h => (Mm.pick h [3] (by decide)).mm (by rw [← tgs_of hn c1]; rfl)))
  · replace c1 := of_decide_eq_false c1
    refine hc_skip ?_
    refine hq_in (hq_then ?_)
    refine hc_region ?_
    refine hl_y rfl rfl rfl (y_move rfl rfl) ?_
    refine hl_y rfl rfl rfl (y_addn (q := 1) rfl rfl rfl (by first | omega | (simp only [ls_len, ns_len, List.length_append, List.length_take, List.length_drop, List.length_replicate, List.length_cons, List.length_nil, putL_len, shaL_len, overL_len, macKey_len, hmacL_len, tgL_len, outN_len, expN_len, infoL_len, derL_len]; omega) | (simp only [ls_len, ns_len, List.length_append, List.length_take, List.length_drop, List.length_replicate, List.length_cons, List.length_nil, putL_len, shaL_len, overL_len, macKey_len, hmacL_len, tgL_len, outN_len, expN_len, infoL_len, derL_len] at *; omega))) ?_
    refine hl_y rfl rfl rfl (y_assign rfl rfl) ?_
    refine hl_nil ?_
    exact hq_round3 (n + 1) (y25) (y22) (by omega) (by omega) ⟨lk_int rfl (by omega), rfl, rfl, rfl, lk_int rfl (by omega), trivial⟩ (fun _ h => Mm.pick h [1, 0, 3, 4, 5] (by decide))

theorem kdf_Expand_big (kl : List UInt8) (kv : Value) (il : List UInt8) (iv : Value) (size : Nat) (h1 : 8160 < size) (h2 : size ≤ 9223372036854775807) (w : World) (hk : Rd w kv (ls vb kl)) (hkm : kl.length ≤ 1000) (hi : Rd w iv (ls vb il)) (him : il.length ≤ 20000) : Ct0 Tryd.prog 48 #[kv, iv, vi size] w (.tuple #[.slice none 0 0, vi 2]) := by
  refine ct0_of Tryd.func48 rfl Tryd.ntmps48 rfl ?_
  refine hc_seq ?_
  refine hc_region ?_
  refine hl_i rfl rfl rfl (e_box1 rfl rfl (Rd.one hk)) ?_; intro g3
  refine hl_i rfl rfl rfl (e_box1 rfl rfl (Rd.one hi)) ?_; intro g4
  refine hl_y rfl rfl rfl (y_assign rfl rfl) ?_
  refine hl_y rfl rfl rfl (y_assign (v := vi 0) rfl rfl) ?_
  refine hl_nil ?_
  refine hq_then ?_
  refine hc_scope ?_
  refine hc_seq ?_
  refine hc_seq ?_
  refine hc_region ?_
  refine hl_y rfl rfl rfl (y_move rfl rfl) ?_
  refine hl_y rfl rfl rfl (y_as (y_lssn (q := 1) rfl rfl rfl ) (congrArg Value.bool (decide_eq_false (by omega)))) ?_
  refine hl_y rfl rfl rfl (y_move rfl rfl) ?_
  refine hl_yg 2 13 false rfl rfl rfl rfl rfl (y_move rfl rfl) ?_
  refine hl_yg 2 13 false rfl rfl rfl rfl rfl (y_as (y_gtrn (q := 8160) rfl rfl rfl ) (congrArg Value.bool (decide_eq_true (by omega)))) ?_
  refine hl_y rfl rfl rfl (y_pick (b := false) rfl rfl rfl) ?_
  refine hl_nil ?_
  refine hq_then ?_
  refine hc_ifT rfl ?_
  refine hc_seq ?_
  refine hc_region ?_
  refine hl_y rfl rfl rfl (y_assign rfl rfl) ?_
  refine hl_y rfl rfl rfl (y_assign (v := vi 2) rfl rfl) ?_
  refine hl_nil ?_
  refine hq_then ?_
  refine hc_ret ?_
  exact hq_then_ret (hq_scope_ret (hq_ret2 (()) rfl (rv_tmp rfl) (rv_tmp rfl) rfl (fun _ h => Mm.pick h [] (by simp))))

theorem kdf_Expand_neg (kl : List UInt8) (kv : Value) (il : List UInt8) (iv : Value) (size : Int) (h1 : -9223372036854775808 ≤ size) (h2 : size < 1) (w : World) (hk : Rd w kv (ls vb kl)) (hkm : kl.length ≤ 1000) (hi : Rd w iv (ls vb il)) (him : il.length ≤ 20000) : Ct0 Tryd.prog 48 #[kv, iv, .int .i64 size] w (.tuple #[.slice none 0 0, vi 2]) := by
  refine ct0_of Tryd.func48 rfl Tryd.ntmps48 rfl ?_
  refine hc_seq ?_
  refine hc_region ?_
  refine hl_i rfl rfl rfl (e_box1 rfl rfl (Rd.one hk)) ?_; intro g3
  refine hl_i rfl rfl rfl (e_box1 rfl rfl (Rd.one hi)) ?_; intro g4
  refine hl_y rfl rfl rfl (y_assign rfl rfl) ?_
  refine hl_y rfl rfl rfl (y_assign (v := vi 0) rfl rfl) ?_
  refine hl_nil ?_
  refine hq_then ?_
  refine hc_scope ?_
  refine hc_seq ?_
  refine hc_seq ?_
  refine hc_region ?_
  refine hl_y rfl rfl rfl (y_move rfl rfl) ?_
  refine hl_y rfl rfl rfl (y_as (y_lssi (q := 1) rfl rfl rfl ) (congrArg Value.bool (decide_eq_true (by omega)))) ?_
  refine hl_y rfl rfl rfl (y_move rfl rfl) ?_
  refine hl_no 2 13 false true rfl rfl rfl rfl rfl rfl ?_
  refine hl_no 2 13 false true rfl rfl rfl rfl rfl rfl ?_
  refine hl_y rfl rfl rfl (y_pick (b := true) rfl rfl rfl) ?_
  refine hl_nil ?_
  refine hq_then ?_
  refine hc_ifT rfl ?_
  refine hc_seq ?_
  refine hc_region ?_
  refine hl_y rfl rfl rfl (y_assign rfl rfl) ?_
  refine hl_y rfl rfl rfl (y_assign (v := vi 2) rfl rfl) ?_
  refine hl_nil ?_
  refine hq_then ?_
  refine hc_ret ?_
  exact hq_then_ret (hq_scope_ret (hq_ret2 (()) rfl (rv_tmp rfl) (rv_tmp rfl) rfl (fun _ h => Mm.pick h [] (by simp))))

theorem r09_Expand_ok (kl : List UInt8) (kv : Value) (il : List UInt8) (iv : Value) (size : Nat) (h1 : 1 ≤ size) (h2 : size ≤ 8160) (w : World) (hk : Rd w kv (ls vb kl)) (hkm : kl.length ≤ 1000) (hi : Rd w iv (ls vb il)) (him : il.length ≤ 20000) : Ct Tryd.prog 49 #[kv, iv, vi size] w (fun v : Value => .tuple #[slc v 0 size, vi 0]) (fun v => [.row 5 v (ls vb (outN kl il (tgs size)))]) := by
  refine ct_of Tryd.func49 rfl Tryd.ntmps49 rfl ?_
  refine hc_seq ?_
  refine hc_region ?_
  refine hl_y rfl rfl rfl (y_assign rfl rfl) ?_
  refine hl_y rfl rfl rfl (y_assign (v := vi 0) rfl rfl) ?_
  refine hl_nil ?_
  refine hq_then ?_
  refine hc_seq ?_
  refine hc_seq ?_
  refine hc_region ?_
  refine hl_y rfl rfl rfl (y_move rfl rfl) ?_
  refine hl_y rfl rfl rfl (y_as (y_lssn (q := 1) rfl rfl rfl ) (congrArg Value.bool (decide_eq_false (by omega)))) ?_
  refine hl_y rfl rfl rfl (y_move rfl rfl) ?_
  refine hl_yg 2 13 false rfl rfl rfl rfl rfl (y_move rfl rfl) ?_
  refine hl_yg 2 13 false rfl rfl rfl rfl rfl (y_as (y_gtrn (q := 8160) rfl rfl rfl ) (congrArg Value.bool (decide_eq_false (by omega)))) ?_
  refine hl_y rfl rfl rfl (y_pick (b := false) rfl rfl rfl) ?_
  refine hl_nil ?_
  refine hq_then ?_
  refine hc_ifF rfl ?_
  refine hc_skip ?_
  refine hq_then ?_
  refine hc_seq ?_
  refine hc_region ?_
  refine hl_y rfl rfl rfl (y_assign rfl rfl) ?_
  refine hl_y rfl rfl rfl (y_assign rfl rfl) ?_
  refine hl_nil ?_
  refine hq_then ?_
  refine hc_seq ?_
  refine hc_seq ?_
  refine hc_region ?_
  refine hl_y rfl rfl rfl (y_assign (v := vi 1) rfl rfl) ?_
  refine hl_nil ?_
  refine hq_then ?_
  refine hc_block ?_
  refine hc_loop3 (fun n v u => 32 * n < size + 32) (fun n v u => size + 32 - 32 * n) (fun n v u => [(0, kv), (1, iv), (2, vi size), (8, v), (9, u), (10, vi (n + 1))]) (fun n v u => Mm w [.row 5 u (ls vb (tgL kl il n)), .row 5 v (ls vb (outN kl il n))]) (0) (.slice none 0 0) (.slice none 0 0) (by omega) ⟨rfl, rfl, lk_int rfl (by omega), rfl, rfl, lk_int rfl (by omega), trivial⟩ (fun _ h => mm_nilb 5 _ (mm_nilb 5 _ h)) ?_
  intro n v u hn
  refine hc_seq ?_
  refine hc_seq ?_
  refine hc_region ?_
  refine hl_y rfl rfl rfl (y_move rfl rfl) ?_
  refine hl_y rfl rfl rfl (y_lenE (32 * n) rfl rfl S22 rfl (rdR 1 rfl) (by rw [ls_len]; exact outN_len _ _ n)) ?_
  refine hl_y rfl rfl rfl (y_move rfl rfl) ?_
  refine hl_y rfl rfl rfl (y_lssn rfl rfl rfl ) ?_
  refine hl_nil ?_
  refine hq_then ?_
  refine hc_if rfl (fun c1 => ?_) (fun c1 => ?_)
  · replace c1 := of_decide_eq_true c1
    refine hc_skip ?_
    refine hq_then ?_
    refine hc_seq ?_
    refine hc_block ?_
    refine hc_seq ?_
    refine hc_region ?_
    refine hl_y rfl rfl rfl (y_move rfl rfl) ?_
    refine hl_y rfl rfl rfl (y_move rfl rfl) ?_
    refine hl_y rfl rfl rfl (y_move rfl rfl) ?_
    refine hl_i rfl rfl rfl (e_call rfl F32 rfl (fun w hw => r01_Join_ct (tgL kl il n) il _ _ w ((rdR 0 rfl) w hw) ((rdF hi) w hw) (by have := tgL_le kl il n; omega)) rfl) ?_; intro y26
    refine hl_y rfl rfl rfl (y_move rfl rfl) ?_
    refine hl_y rfl rfl rfl (y_conv rfl U3 U5 rfl (wrap_nb _)) ?_
    refine hl_i rfl rfl rfl (e_lit1 rfl S22 Z1_5 rfl rfl rfl) ?_; intro g29
    refine hl_i rfl rfl rfl (e_call rfl F32 rfl (fun w hw => r01_Join_ct (tgL kl il n ++ il) [UInt8.ofNat (n + 1)] _ _ w ((rdR 1 rfl) w hw) ((rdB 0 rfl rfl rfl (by omega)) w hw) (by have := tgL_le kl il n; rw [List.length_append]; simp; omega)) rfl) ?_; intro y30
    refine hl_i rfl rfl rfl (e_call rfl F42 rfl (fun w hw => r08_Of_ct kl _ (tgL kl il n ++ il ++ [UInt8.ofNat (n + 1)]) _ w ((rdF hk) w hw) (by omega) ((rdR 0 rfl) w hw) (by have := tgL_le kl il n; rw [List.length_append, List.length_append]; simp; omega)) rfl) ?_; intro y31
    refine hl_y rfl rfl rfl (y_assign rfl rfl) ?_
    refine hl_nil ?_
    refine hq_then ?_
    refine hc_region ?_
    refine hl_y rfl rfl rfl (y_move rfl rfl) ?_
    refine hl_y rfl rfl rfl (y_move rfl rfl) ?_
    refine hl_i rfl rfl rfl (e_appb 5 rfl A22_5 rfl rfl rfl (rdR 0 rfl) rfl (by simp only [outN_len, hmacL_len, tgL_len]; omega)) ?_; intro y34
    refine hl_y rfl rfl rfl (y_assign rfl rfl) ?_
    refine hl_nil ?_
    refine hq_in (hq_then ?_)
    refine hc_region ?_
    refine hl_y rfl rfl rfl (y_move rfl rfl) ?_
    refine hl_y rfl rfl rfl (y_addn (q := 1) rfl rfl rfl (by first | omega | (simp only [ls_len, ns_len, List.length_append, List.length_take, List.length_drop, List.length_replicate, List.length_cons, List.length_nil, putL_len, shaL_len, overL_len, macKey_len, hmacL_len, tgL_len, outN_len, expN_len, infoL_len, derL_len]; omega) | (simp only [ls_len, ns_len, List.length_append, List.length_take, List.length_drop, List.length_replicate, List.length_cons, List.length_nil, putL_len, shaL_len, overL_len, macKey_len, hmacL_len, tgL_len, outN_len, expN_len, infoL_len, derL_len] at *; omega))) ?_
    refine hl_y rfl rfl rfl (y_assign rfl rfl) ?_
    refine hl_nil ?_
    exact hq_round3 (n + 1) (y34) (y31) (by omega) (by omega) ⟨rfl, rfl, lk_int rfl (by omega), rfl, rfl, lk_int rfl (by omega), trivial⟩ (fun _ h => Mm.pick h [0, 5] (by decide))
  · replace c1 := of_decide_eq_false c1
    refine hc_exit ?_
    refine hq_then_exit (hq_loop_exit3 (hq_in_same (hq_then ?_)))
    refine hc_seq ?_
    refine hc_region ?_
    refine hl_y rfl rfl rfl (y_move rfl rfl) ?_
    refine hl_y rfl rfl rfl (y_move rfl rfl) ?_
    refine hl_y rfl rfl rfl (y_slc0 rfl S22 rfl (rdR 1 rfl) rfl (by rw [ls_len, outN_len]; omega)) ?_
    refine hl_y rfl rfl rfl (y_assign rfl rfl) ?_
    refine hl_y rfl rfl rfl (y_assign (v := vi 0) rfl rfl) ?_
    refine hl_nil ?_
    refine hq_then ?_
    refine hc_ret ?_
    exact hq_ret2 (v) rfl (rv_tmp rfl) (rv_tmp rfl) rfl (fun _ h => (Mm.pick h [1] (by decide)).mm (by rw [show n = tgs size from by unfold tgs; omega]; rfl))

theorem r09_Expand_big (kl : List UInt8) (kv : Value) (il : List UInt8) (iv : Value) (size : Nat) (h1 : 8160 < size) (h2 : size ≤ 9223372036854775807) (w : World) (hk : Rd w kv (ls vb kl)) (hkm : kl.length ≤ 1000) (hi : Rd w iv (ls vb il)) (him : il.length ≤ 20000) : Ct0 Tryd.prog 49 #[kv, iv, vi size] w (.tuple #[.slice none 0 0, vi 2]) := by
  refine ct0_of Tryd.func49 rfl Tryd.ntmps49 rfl ?_
  refine hc_seq ?_
  refine hc_region ?_
  refine hl_y rfl rfl rfl (y_assign rfl rfl) ?_
  refine hl_y rfl rfl rfl (y_assign (v := vi 0) rfl rfl) ?_
  refine hl_nil ?_
  refine hq_then ?_
  refine hc_seq ?_
  refine hc_seq ?_
  refine hc_region ?_
  refine hl_y rfl rfl rfl (y_move rfl rfl) ?_
  refine hl_y rfl rfl rfl (y_as (y_lssn (q := 1) rfl rfl rfl ) (congrArg Value.bool (decide_eq_false (by omega)))) ?_
  refine hl_y rfl rfl rfl (y_move rfl rfl) ?_
  refine hl_yg 2 13 false rfl rfl rfl rfl rfl (y_move rfl rfl) ?_
  refine hl_yg 2 13 false rfl rfl rfl rfl rfl (y_as (y_gtrn (q := 8160) rfl rfl rfl ) (congrArg Value.bool (decide_eq_true (by omega)))) ?_
  refine hl_y rfl rfl rfl (y_pick (b := false) rfl rfl rfl) ?_
  refine hl_nil ?_
  refine hq_then ?_
  refine hc_ifT rfl ?_
  refine hc_seq ?_
  refine hc_region ?_
  refine hl_y rfl rfl rfl (y_assign rfl rfl) ?_
  refine hl_y rfl rfl rfl (y_assign (v := vi 2) rfl rfl) ?_
  refine hl_nil ?_
  refine hq_then ?_
  refine hc_ret ?_
  exact hq_then_ret (hq_ret2 (()) rfl (rv_tmp rfl) (rv_tmp rfl) rfl (fun _ h => Mm.pick h [] (by simp)))

theorem r09_Expand_neg (kl : List UInt8) (kv : Value) (il : List UInt8) (iv : Value) (size : Int) (h1 : -9223372036854775808 ≤ size) (h2 : size < 1) (w : World) (hk : Rd w kv (ls vb kl)) (hkm : kl.length ≤ 1000) (hi : Rd w iv (ls vb il)) (him : il.length ≤ 20000) : Ct0 Tryd.prog 49 #[kv, iv, .int .i64 size] w (.tuple #[.slice none 0 0, vi 2]) := by
  refine ct0_of Tryd.func49 rfl Tryd.ntmps49 rfl ?_
  refine hc_seq ?_
  refine hc_region ?_
  refine hl_y rfl rfl rfl (y_assign rfl rfl) ?_
  refine hl_y rfl rfl rfl (y_assign (v := vi 0) rfl rfl) ?_
  refine hl_nil ?_
  refine hq_then ?_
  refine hc_seq ?_
  refine hc_seq ?_
  refine hc_region ?_
  refine hl_y rfl rfl rfl (y_move rfl rfl) ?_
  refine hl_y rfl rfl rfl (y_as (y_lssi (q := 1) rfl rfl rfl ) (congrArg Value.bool (decide_eq_true (by omega)))) ?_
  refine hl_y rfl rfl rfl (y_move rfl rfl) ?_
  refine hl_no 2 13 false true rfl rfl rfl rfl rfl rfl ?_
  refine hl_no 2 13 false true rfl rfl rfl rfl rfl rfl ?_
  refine hl_y rfl rfl rfl (y_pick (b := true) rfl rfl rfl) ?_
  refine hl_nil ?_
  refine hq_then ?_
  refine hc_ifT rfl ?_
  refine hc_seq ?_
  refine hc_region ?_
  refine hl_y rfl rfl rfl (y_assign rfl rfl) ?_
  refine hl_y rfl rfl rfl (y_assign (v := vi 2) rfl rfl) ?_
  refine hl_nil ?_
  refine hq_then ?_
  refine hc_ret ?_
  exact hq_then_ret (hq_ret2 (()) rfl (rv_tmp rfl) (rv_tmp rfl) rfl (fun _ h => Mm.pick h [] (by simp)))

theorem kdf_Extract_ct (kl : List UInt8) (kv : Value) (tl : List UInt8) (tv : Value)  (w : World) (hk : Rd w kv (ls vb kl)) (hkm : kl.length ≤ 1000) (ht : Rd w tv (ls vb tl)) (htm : tl.length ≤ 90000) (hkl : KL w) : Ct Tryd.prog 50 #[kv, tv] w (fun v : Value => v) (fun v => [.row 5 v (ls vb (hmacL kl tl))]) := by
  refine ct_of Tryd.func50 rfl Tryd.ntmps50 rfl ?_
  refine hc_seq ?_
  refine hc_region ?_
  refine hl_y rfl rfl rfl (y_assign rfl rfl) ?_
  refine hl_nil ?_
  refine hq_then ?_
  refine hc_seq ?_
  refine hc_region ?_
  refine hl_y rfl rfl rfl (y_move rfl rfl) ?_
  refine hl_y rfl rfl rfl (y_move rfl rfl) ?_
  refine hl_i rfl rfl rfl (e_call rfl F41 rfl (fun w hw => mac_Of_ct kl _ tl _ w ((rdF hk) w hw) (by first | omega | (simp only [List.length_append, List.length_take, List.length_drop, List.length_replicate, List.length_cons, List.length_nil, putL_len, shaL_len, overL_len, macKey_len, hmacL_len]; omega) | (simp only [List.length_append, List.length_take, List.length_drop, List.length_replicate, List.length_cons, List.length_nil, putL_len, shaL_len, overL_len, macKey_len, hmacL_len] at *; omega)) ((rdF ht) w hw) (by first | omega | (simp only [List.length_append, List.length_take, List.length_drop, List.length_replicate, List.length_cons, List.length_nil, putL_len, shaL_len, overL_len, macKey_len, hmacL_len]; omega) | (simp only [List.length_append, List.length_take, List.length_drop, List.length_replicate, List.length_cons, List.length_nil, putL_len, shaL_len, overL_len, macKey_len, hmacL_len] at *; omega)) (hkl.below (Mm.out hw).low)) rfl) ?_; intro y7
  refine hl_y rfl rfl rfl (y_assign rfl rfl) ?_
  refine hl_nil ?_
  refine hq_then ?_
  refine hc_ret ?_
  exact hq_ret1 (y7) rfl (rv_tmp rfl) rfl (fun _ h => Mm.pick h [0] (by decide))

theorem kdf_Mix_ct (kl : List UInt8) (kv : Value) (tl : List UInt8) (tv : Value)  (w : World) (hk : Rd w kv (ls vb kl)) (hkm : kl.length ≤ 1000) (ht : Rd w tv (ls vb tl)) (htm : tl.length ≤ 90000) (hkl : KL w) : Ct Tryd.prog 54 #[kv, tv] w (fun v : Value => v) (fun v => [.row 5 v (ls vb (hmacL kl tl))]) := by
  refine ct_of Tryd.func54 rfl Tryd.ntmps54 rfl ?_
  refine hc_seq ?_
  refine hc_region ?_
  refine hl_y rfl rfl rfl (y_assign rfl rfl) ?_
  refine hl_nil ?_
  refine hq_then ?_
  refine hc_seq ?_
  refine hc_region ?_
  refine hl_y rfl rfl rfl (y_move rfl rfl) ?_
  refine hl_y rfl rfl rfl (y_move rfl rfl) ?_
  refine hl_i rfl rfl rfl (e_call rfl F50 rfl (fun w hw => kdf_Extract_ct kl _ tl _ w ((rdF hk) w hw) (by first | omega | (simp only [List.length_append, List.length_take, List.length_drop, List.length_replicate, List.length_cons, List.length_nil, putL_len, shaL_len, overL_len, macKey_len, hmacL_len]; omega) | (simp only [List.length_append, List.length_take, List.length_drop, List.length_replicate, List.length_cons, List.length_nil, putL_len, shaL_len, overL_len, macKey_len, hmacL_len] at *; omega)) ((rdF ht) w hw) (by first | omega | (simp only [List.length_append, List.length_take, List.length_drop, List.length_replicate, List.length_cons, List.length_nil, putL_len, shaL_len, overL_len, macKey_len, hmacL_len]; omega) | (simp only [List.length_append, List.length_take, List.length_drop, List.length_replicate, List.length_cons, List.length_nil, putL_len, shaL_len, overL_len, macKey_len, hmacL_len] at *; omega)) (hkl.below (Mm.out hw).low)) rfl) ?_; intro y7
  refine hl_y rfl rfl rfl (y_assign rfl rfl) ?_
  refine hl_nil ?_
  refine hq_then ?_
  refine hc_ret ?_
  exact hq_ret1 (y7) rfl (rv_tmp rfl) rfl (fun _ h => Mm.pick h [0] (by decide))

theorem r09_Mix_ct (kl : List UInt8) (kv : Value) (tl : List UInt8) (tv : Value)  (w : World) (hk : Rd w kv (ls vb kl)) (hkm : kl.length ≤ 1000) (ht : Rd w tv (ls vb tl)) (htm : tl.length ≤ 90000) : Ct Tryd.prog 55 #[kv, tv] w (fun v : Value => v) (fun v => [.row 5 v (ls vb (hmacL kl tl))]) := by
  refine ct_of Tryd.func55 rfl Tryd.ntmps55 rfl ?_
  refine hc_seq ?_
  refine hc_region ?_
  refine hl_y rfl rfl rfl (y_assign rfl rfl) ?_
  refine hl_nil ?_
  refine hq_then ?_
  refine hc_seq ?_
  refine hc_region ?_
  refine hl_y rfl rfl rfl (y_move rfl rfl) ?_
  refine hl_y rfl rfl rfl (y_move rfl rfl) ?_
  refine hl_i rfl rfl rfl (e_call rfl F42 rfl (fun w hw => r08_Of_ct kl _ tl _ w ((rdF hk) w hw) (by first | omega | (simp only [List.length_append, List.length_take, List.length_drop, List.length_replicate, List.length_cons, List.length_nil, putL_len, shaL_len, overL_len, macKey_len, hmacL_len]; omega) | (simp only [List.length_append, List.length_take, List.length_drop, List.length_replicate, List.length_cons, List.length_nil, putL_len, shaL_len, overL_len, macKey_len, hmacL_len] at *; omega)) ((rdF ht) w hw) (by first | omega | (simp only [List.length_append, List.length_take, List.length_drop, List.length_replicate, List.length_cons, List.length_nil, putL_len, shaL_len, overL_len, macKey_len, hmacL_len]; omega) | (simp only [List.length_append, List.length_take, List.length_drop, List.length_replicate, List.length_cons, List.length_nil, putL_len, shaL_len, overL_len, macKey_len, hmacL_len] at *; omega))) rfl) ?_; intro y7
  refine hl_y rfl rfl rfl (y_assign rfl rfl) ?_
  refine hl_nil ?_
  refine hq_then ?_
  refine hc_ret ?_
  exact hq_ret1 (y7) rfl (rv_tmp rfl) rfl (fun _ h => Mm.pick h [0] (by decide))

end Go.Proofs.YtcdidapkpfnphaaDoor
