/- Texts sealed: what each call gives back. -/
import Derived.Test.YtcdidapkpfnphaaDoorKdfB
import Derived.Test.YtcdidapkpfnphaaDoorCtrC
import Derived.Test.YtcdidapkpfnphaaDoorSpecBox
namespace Go.Proofs.YtcdidapkpfnphaaDoor
open Go.RowKit
set_option linter.unusedVariables false
set_option linter.unusedSimpArgs false
set_option maxRecDepth 100000
theorem box_Size_ct (n : Nat) (hn : n ≤ 4611686018427387904) (w : World) : Ct0 Tryd.prog 31 #[vi n] w (vi (n + 48)) := by
  refine ct0_of Tryd.func31 rfl Tryd.ntmps31 rfl ?_
  refine hc_seq ?_
  refine hc_region ?_
  refine hl_y rfl rfl rfl (y_assign (v := vi 0) rfl rfl) ?_
  refine hl_nil ?_
  refine hq_then ?_
  refine hc_seq ?_
  refine hc_region ?_
  refine hl_y rfl rfl rfl (y_move rfl rfl) ?_
  refine hl_y rfl rfl rfl (y_as (y_maxn (q := 0) rfl rfl rfl) (congrArg (fun n : Nat => vi n) (Nat.max_zero n))) ?_
  refine hl_y rfl rfl rfl (y_addn (q := 48) rfl rfl rfl (by first | omega | (simp only [ls_len, ns_len, List.length_append, List.length_take, List.length_drop, List.length_replicate, List.length_cons, List.length_nil, putL_len, shaL_len, overL_len, macKey_len, hmacL_len, tgL_len, outN_len, expN_len, infoL_len, derL_len]; omega) | (simp only [ls_len, ns_len, List.length_append, List.length_take, List.length_drop, List.length_replicate, List.length_cons, List.length_nil, putL_len, shaL_len, overL_len, macKey_len, hmacL_len, tgL_len, outN_len, expN_len, infoL_len, derL_len] at *; omega))) ?_
  refine hl_y rfl rfl rfl (y_assign rfl rfl) ?_
  refine hl_nil ?_
  refine hq_then ?_
  refine hc_ret ?_
  exact hq_ret1 (()) rfl (rv_tmp rfl) rfl (fun _ h => Mm.pick h [] (by simp))

theorem box_Size_neg (n : Int) (hn : n < 0) (w : World) : Ct0 Tryd.prog 31 #[.int .i64 n] w (vi 48) := by
  refine ct0_of Tryd.func31 rfl Tryd.ntmps31 rfl ?_
  refine hc_seq ?_
  refine hc_region ?_
  refine hl_y rfl rfl rfl (y_assign (v := vi 0) rfl rfl) ?_
  refine hl_nil ?_
  refine hq_then ?_
  refine hc_seq ?_
  refine hc_region ?_
  refine hl_y rfl rfl rfl (y_move rfl rfl) ?_
  refine hl_y rfl rfl rfl (y_as (y_maxi rfl rfl rfl) (congrArg (Value.int .i64) (show max n ((0 : Nat) : Int) = ((0 : Nat) : Int) by omega))) ?_
  refine hl_y rfl rfl rfl (y_addn (q := 48) rfl rfl rfl (by first | omega | (simp only [ls_len, ns_len, List.length_append, List.length_take, List.length_drop, List.length_replicate, List.length_cons, List.length_nil, putL_len, shaL_len, overL_len, macKey_len, hmacL_len, tgL_len, outN_len, expN_len, infoL_len, derL_len]; omega) | (simp only [ls_len, ns_len, List.length_append, List.length_take, List.length_drop, List.length_replicate, List.length_cons, List.length_nil, putL_len, shaL_len, overL_len, macKey_len, hmacL_len, tgL_len, outN_len, expN_len, infoL_len, derL_len] at *; omega))) ?_
  refine hl_y rfl rfl rfl (y_assign rfl rfl) ?_
  refine hl_nil ?_
  refine hq_then ?_
  refine hc_ret ?_
  exact hq_ret1 (()) rfl (rv_tmp rfl) rfl (fun _ h => Mm.pick h [] (by simp))

theorem box_key1_ct (kl sl : List UInt8) (kv : Value) (g : Nat) (w : World) (hg : w.cell? ⟨g, 0, none⟩ = some kv) (hk : Rd w kv (ls vb kl)) (hkm : kl.length ≤ 1000) (hsm : sl.length ≤ 1000) (hkl : KL w) : Ct Tryd.prog 79 #[vs sl, .pointer (some ⟨g, 0, none⟩)] w (fun v : Value => slc3 v 0 32 32) (fun v => [.row 5 v (ls vb (derL kl sl))]) := by
  refine ct_of Tryd.func79 rfl Tryd.ntmps79 rfl ?_
  refine hc_seq ?_
  refine hc_region ?_
  refine hl_y rfl rfl rfl (y_assign rfl rfl) ?_
  refine hl_nil ?_
  refine hq_then ?_
  refine hc_seq ?_
  refine hc_region ?_
  refine hl_y rfl rfl rfl (y_ldg rfl O22 rfl hg) ?_
  refine hl_y rfl rfl rfl (y_move rfl rfl) ?_
  refine hl_i rfl rfl rfl (e_call rfl F52 rfl (fun w hw => kdf_Derive_ct kl _ sl w ((rdF hk) w hw) (by first | omega | (simp only [List.length_append, List.length_take, List.length_drop, List.length_replicate, List.length_cons, List.length_nil, putL_len, shaL_len, overL_len, macKey_len, hmacL_len, tgL_len, outN_len, expN_len, infoL_len, derL_len]; omega) | (simp only [List.length_append, List.length_take, List.length_drop, List.length_replicate, List.length_cons, List.length_nil, putL_len, shaL_len, overL_len, macKey_len, hmacL_len, tgL_len, outN_len, expN_len, infoL_len, derL_len] at *; omega)) (by first | omega | decide | (simp; omega)) (hkl.below (Mm.out hw).low)) rfl) ?_; intro y6
  refine hl_y rfl rfl rfl (y_assign rfl rfl) ?_
  refine hl_nil ?_
  refine hq_then ?_
  refine hc_ret ?_
  exact hq_ret1 (y6) rfl (rv_tmp rfl) rfl (fun _ h => Mm.pick h [0] (by decide))

theorem box_Keys_ct (kl : List UInt8) (kv : Value)  (w : World) (hk : Rd w kv (ls vb kl)) (hkm : kl.length ≤ 1000) (hkl : KL w) : Ct Tryd.prog 58 #[kv] w (fun y : Value × Value => .tuple #[slc3 y.1 0 32 32, slc3 y.2 0 32 32]) (fun y => [.row 5 y.2 (ls vb (derL kl [116, 97, 103])), .row 5 y.1 (ls vb (derL kl [115, 101, 97, 108]))]) := by
  refine ct_of Tryd.func58 rfl Tryd.ntmps58 rfl ?_
  refine hc_seq ?_
  refine hc_region ?_
  refine hl_i rfl rfl rfl (e_box1 rfl rfl (Rd.one hk)) ?_; intro g1
  refine hl_y rfl rfl rfl (y_assign rfl rfl) ?_
  refine hl_y rfl rfl rfl (y_assign rfl rfl) ?_
  refine hl_nil ?_
  refine hq_then ?_
  refine hc_seq ?_
  refine hc_region ?_
  refine hl_y rfl rfl rfl (y_func (vs := #[.pointer (some ⟨g1, 0, none⟩)]) rfl rfl) ?_
  refine hl_y rfl rfl rfl (y_assign rfl rfl) ?_
  refine hl_nil ?_
  refine hq_then ?_
  refine hc_seq ?_
  refine hc_region ?_
  refine hl_y rfl rfl rfl (y_move rfl rfl) ?_
  refine hl_i rfl rfl rfl (e_callC rfl F79 rfl (fun w hw => box_key1_ct kl [115, 101, 97, 108] kv g1 w (blk_cell hw 0 rfl rfl) (hk.below (Mm.out hw).low) (by omega) (by decide) (hkl.below (Mm.out hw).low)) rfl) ?_; intro y7
  refine hl_y rfl rfl rfl (y_move rfl rfl) ?_
  refine hl_i rfl rfl rfl (e_callC rfl F79 rfl (fun w hw => box_key1_ct kl [116, 97, 103] kv g1 w (blk_cell hw 1 rfl rfl) (hk.below (Mm.out hw).low) (by omega) (by decide) (hkl.below (Mm.out hw).low)) rfl) ?_; intro y9
  refine hl_y rfl rfl rfl (y_assign rfl rfl) ?_
  refine hl_y rfl rfl rfl (y_assign rfl rfl) ?_
  refine hl_nil ?_
  refine hq_then ?_
  refine hc_ret ?_
  exact hq_ret2 ((y7, y9)) rfl (rv_tmp rfl) (rv_tmp rfl) rfl (fun _ h => Mm.pick h [0, 1] (by decide))

theorem box_Seal_ok (kl : List UInt8) (kv : Value) (nl : List UInt8) (nv : Value) (tl : List UInt8) (tv : Value) (w : World) (hk : Rd w kv (ls vb kl)) (hn : Rd w nv (ls vb nl)) (ht : Rd w tv (ls vb tl)) (h1 : kl.length = 32) (h2 : nl.length = 16) (h3 : tl.length ≤ 60000) (hkl : KL w) : Ct Tryd.prog 30 #[kv, nv, tv] w (fun v : Value => .tuple #[v, vi 0]) (fun v => [.row 5 v (ls vb (sealL kl nl tl))]) := by
  refine ct_of Tryd.func30 rfl Tryd.ntmps30 rfl ?_
  refine hc_seq ?_
  refine hc_region ?_
  refine hl_y rfl rfl rfl (y_assign rfl rfl) ?_
  refine hl_y rfl rfl rfl (y_assign (v := vi 0) rfl rfl) ?_
  refine hl_nil ?_
  refine hq_then ?_
  refine hc_seq ?_
  refine hc_block ?_
  refine hc_seq ?_
  refine hc_region ?_
  refine hl_y rfl rfl rfl (y_move rfl rfl) ?_
  refine hl_y rfl rfl rfl (y_lenE (kl.length) rfl rfl S22 rfl (rdF hk) (by first | rfl | (simp only [ls_len, ns_len, List.length_append, List.length_take, List.length_drop, List.length_replicate, List.length_cons, List.length_nil, putL_len, shaL_len, overL_len, macKey_len, hmacL_len, tgL_len, outN_len, expN_len, infoL_len, derL_len]; done) | (simp only [ls_len, ns_len, List.length_append, List.length_take, List.length_drop, List.length_replicate, List.length_cons, List.length_nil, putL_len, shaL_len, overL_len, macKey_len, hmacL_len, tgL_len, outN_len, expN_len, infoL_len, derL_len]; omega))) ?_
  refine hl_y rfl rfl rfl (y_as (y_neqn (q := 32) rfl rfl rfl ) (congrArg Value.bool (decide_eq_false (by omega)))) ?_
  refine hl_y rfl rfl rfl (y_move rfl rfl) ?_
  refine hl_yg 3 17 false rfl rfl rfl rfl rfl (y_move rfl rfl) ?_
  refine hl_yg 3 17 false rfl rfl rfl rfl rfl (y_lenE (nl.length) rfl rfl S22 rfl (rdF hn) (by first | rfl | (simp only [ls_len, ns_len, List.length_append, List.length_take, List.length_drop, List.length_replicate, List.length_cons, List.length_nil, putL_len, shaL_len, overL_len, macKey_len, hmacL_len, tgL_len, outN_len, expN_len, infoL_len, derL_len]; done) | (simp only [ls_len, ns_len, List.length_append, List.length_take, List.length_drop, List.length_replicate, List.length_cons, List.length_nil, putL_len, shaL_len, overL_len, macKey_len, hmacL_len, tgL_len, outN_len, expN_len, infoL_len, derL_len]; omega))) ?_
  refine hl_yg 3 17 false rfl rfl rfl rfl rfl (y_as (y_neqn (q := 16) rfl rfl rfl ) (congrArg Value.bool (decide_eq_false (by omega)))) ?_
  refine hl_y rfl rfl rfl (y_pick (b := false) rfl rfl rfl) ?_
  refine hl_y rfl rfl rfl (y_assign rfl rfl) ?_
  refine hl_nil ?_
  refine hq_then ?_
  refine hc_ifF rfl ?_
  refine hc_seq ?_
  refine hc_region ?_
  refine hl_y rfl rfl rfl (y_move rfl rfl) ?_
  refine hl_y rfl rfl rfl (y_lenE (tl.length) rfl rfl S22 rfl (rdF ht) (by first | rfl | (simp only [ls_len, ns_len, List.length_append, List.length_take, List.length_drop, List.length_replicate, List.length_cons, List.length_nil, putL_len, shaL_len, overL_len, macKey_len, hmacL_len, tgL_len, outN_len, expN_len, infoL_len, derL_len]; done) | (simp only [ls_len, ns_len, List.length_append, List.length_take, List.length_drop, List.length_replicate, List.length_cons, List.length_nil, putL_len, shaL_len, overL_len, macKey_len, hmacL_len, tgL_len, outN_len, expN_len, infoL_len, derL_len]; omega))) ?_
  refine hl_y rfl rfl rfl (y_as (y_gtrn (q := 60000) rfl rfl rfl ) (congrArg Value.bool (decide_eq_false (by omega)))) ?_
  refine hl_y rfl rfl rfl (y_assign rfl rfl) ?_
  refine hl_nil ?_
  refine hq_then ?_
  refine hc_ifF rfl ?_
  refine hc_skip ?_
  refine hq_in (hq_then ?_)
  refine hc_seq ?_
  refine hc_region ?_
  refine hl_y rfl rfl rfl (y_move rfl rfl) ?_
  refine hl_i rfl rfl rfl (e_call rfl F58 rfl (fun w hw => box_Keys_ct kl _ w ((rdF hk) w hw) (by first | omega | (simp only [List.length_append, List.length_take, List.length_drop, List.length_replicate, List.length_cons, List.length_nil, putL_len, shaL_len, overL_len, macKey_len, hmacL_len, tgL_len, outN_len, expN_len, infoL_len, derL_len]; omega) | (simp only [List.length_append, List.length_take, List.length_drop, List.length_replicate, List.length_cons, List.length_nil, putL_len, shaL_len, overL_len, macKey_len, hmacL_len, tgL_len, outN_len, expN_len, infoL_len, derL_len] at *; omega)) (hkl.below (Mm.out hw).low)) rfl) ?_; intro y28
  refine hl_y rfl rfl rfl (y_move rfl rfl) ?_
  refine hl_y rfl rfl rfl (y_extract rfl rfl rfl) ?_
  refine hl_y rfl rfl rfl (y_extract rfl rfl rfl) ?_
  refine hl_y rfl rfl rfl (y_assign rfl rfl) ?_
  refine hl_y rfl rfl rfl (y_assign rfl rfl) ?_
  refine hl_nil ?_
  refine hq_then ?_
  refine hc_seq ?_
  refine hc_region ?_
  refine hl_y rfl rfl rfl (y_move rfl rfl) ?_
  refine hl_y rfl rfl rfl (y_move rfl rfl) ?_
  refine hl_y rfl rfl rfl (y_move rfl rfl) ?_
  refine hl_i rfl rfl rfl (e_call rfl F59 rfl (fun w hw => ctr_Over_ct (derL kl [115, 101, 97, 108]) nl _ _ tl _ w (((rdW3 1 rfl (derL_len _ _))) w hw) ((rdF hn) w hw) ((rdF ht) w hw) (by omega)) rfl) ?_; intro y35
  refine hl_y rfl rfl rfl (y_move rfl rfl) ?_
  refine hl_y rfl rfl rfl (y_extract rfl rfl rfl) ?_
  refine hl_y rfl rfl rfl (y_extract rfl rfl rfl) ?_
  refine hl_y rfl rfl rfl (y_assign rfl rfl) ?_
  refine hl_y rfl rfl rfl (y_assign rfl rfl) ?_
  refine hl_nil ?_
  refine hq_then ?_
  refine hc_seq ?_
  refine hc_seq ?_
  refine hc_region ?_
  refine hl_y rfl rfl rfl (y_move rfl rfl) ?_
  refine hl_y rfl rfl rfl (y_as (y_neqn (q := 0) rfl rfl rfl ) (congrArg Value.bool (decide_eq_false (fun h => h (strF_ok (derL_len _ _) h2 (by omega)))))) ?_
  refine hl_nil ?_
  refine hq_then ?_
  refine hc_ifF rfl ?_
  refine hc_skip ?_
  refine hq_then ?_
  refine hc_seq ?_
  refine hc_region ?_
  refine hl_y rfl rfl rfl (y_move rfl rfl) ?_
  refine hl_y rfl rfl rfl (y_move rfl rfl) ?_
  refine HL.pre (RdM.one (rdF hn)) ?_; intro o43_0
  refine HL.pre (RdM.one (rdR 0 rfl)) ?_; intro o43_1
  refine hl_i rfl rfl rfl (e_lit2 rfl S75 Z1_22 rfl rfl rfl o43_0 o43_1) ?_; intro g43
  refine hl_i rfl rfl rfl (e_call rfl F69 rfl (fun w hw => concat_ct ([(_, nl), (_, (over (derL kl [115, 101, 97, 108]) nl tl))]) _ w ((rdB 0 rfl rfl rfl (by omega)) w hw) (List.forall_mem_cons.2 ⟨(rdF hn : RdM _ _ (ls vb nl)) w hw, (List.forall_mem_cons.2 ⟨(rdR 1 rfl : RdM _ _ (ls vb (over (derL kl [115, 101, 97, 108]) nl tl))) w hw, (fun _ h => absurd h (by simp))⟩)⟩) (by have hov := over_le (derL kl [115, 101, 97, 108]) nl tl; simp only [catL, List.map_cons, List.map_nil, List.flatten_cons, List.flatten_nil, List.length_append, List.length_take, List.length_drop, List.length_replicate, List.length_cons, List.length_nil, putL_len, shaL_len, overL_len, macKey_len, hmacL_len, tgL_len, outN_len, expN_len, infoL_len, derL_len]; omega) (by simp)) rfl) ?_; intro y44
  refine HL.mem (fun _ h => h.setr 0 rfl (congrArg (ls vb) (catL2 _ _ _ _))) ?_
  refine hl_y rfl rfl rfl (y_assign rfl rfl) ?_
  refine hl_nil ?_
  refine hq_then ?_
  refine hc_seq ?_
  refine hc_region ?_
  refine hl_y rfl rfl rfl (y_move rfl rfl) ?_
  refine hl_y rfl rfl rfl (y_move rfl rfl) ?_
  refine hl_y rfl rfl rfl (y_move rfl rfl) ?_
  refine hl_i rfl rfl rfl (e_call rfl F41 rfl (fun w hw => mac_Of_ct (derL kl [116, 97, 103]) _ (nl ++ (over (derL kl [115, 101, 97, 108]) nl tl)) _ w (((rdW3 3 rfl (derL_len _ _))) w hw) (by first | omega | (have hov := over_le (derL kl [115, 101, 97, 108]) nl tl; omega) | (have hov := over_le (derL kl [115, 101, 97, 108]) nl tl; simp only [List.length_append, List.length_take, List.length_drop, List.length_replicate, List.length_cons, List.length_nil, putL_len, shaL_len, overL_len, macKey_len, hmacL_len, tgL_len, outN_len, expN_len, infoL_len, derL_len]; omega)) ((rdR 0 rfl) w hw) (by first | omega | (have hov := over_le (derL kl [115, 101, 97, 108]) nl tl; omega) | (have hov := over_le (derL kl [115, 101, 97, 108]) nl tl; simp only [List.length_append, List.length_take, List.length_drop, List.length_replicate, List.length_cons, List.length_nil, putL_len, shaL_len, overL_len, macKey_len, hmacL_len, tgL_len, outN_len, expN_len, infoL_len, derL_len]; omega)) (hkl.below (Mm.out hw).low)) rfl) ?_; intro y48
  refine hl_i rfl rfl rfl (e_appb 1 rfl A22_5 rfl rfl rfl (rdR 0 rfl) rfl (by have hov := over_le (derL kl [115, 101, 97, 108]) nl tl; simp only [List.length_append, List.length_take, List.length_drop, List.length_replicate, List.length_cons, List.length_nil, putL_len, shaL_len, overL_len, macKey_len, hmacL_len, tgL_len, outN_len, expN_len, infoL_len, derL_len]; omega)) ?_; intro y49
  refine hl_y rfl rfl rfl (y_assign rfl rfl) ?_
  refine hl_y rfl rfl rfl (y_assign (v := vi 0) rfl rfl) ?_
  refine hl_nil ?_
  refine hq_then ?_
  refine hc_ret ?_
  exact hq_ret2 (y49) rfl (rv_tmp rfl) (rv_tmp rfl) rfl (fun _ h => Mm.pick h [1] (by decide))

theorem box_Seal_no (kl : List UInt8) (kv : Value) (nl : List UInt8) (nv : Value) (tl : List UInt8) (tv : Value) (w : World) (hk : Rd w kv (ls vb kl)) (hn : Rd w nv (ls vb nl)) (ht : Rd w tv (ls vb tl)) (h : ¬ (kl.length = 32 ∧ nl.length = 16)) : Ct0 Tryd.prog 30 #[kv, nv, tv] w (.tuple #[.slice none 0 0, vi 4]) := by
  refine ct0_of Tryd.func30 rfl Tryd.ntmps30 rfl ?_
  refine hc_seq ?_
  refine hc_region ?_
  refine hl_y rfl rfl rfl (y_assign rfl rfl) ?_
  refine hl_y rfl rfl rfl (y_assign (v := vi 0) rfl rfl) ?_
  refine hl_nil ?_
  refine hq_then ?_
  refine hc_seq ?_
  refine hc_block ?_
  refine hc_seq ?_
  rcases Decidable.em (kl.length = 32) with c0 | c0
  · skip
    refine hc_region ?_
    refine hl_y rfl rfl rfl (y_move rfl rfl) ?_
    refine hl_y rfl rfl rfl (y_lenE (kl.length) rfl rfl S22 rfl (rdF hk) (by first | rfl | (simp only [ls_len, ns_len, List.length_append, List.length_take, List.length_drop, List.length_replicate, List.length_cons, List.length_nil, putL_len, shaL_len, overL_len, macKey_len, hmacL_len, tgL_len, outN_len, expN_len, infoL_len, derL_len]; done) | (simp only [ls_len, ns_len, List.length_append, List.length_take, List.length_drop, List.length_replicate, List.length_cons, List.length_nil, putL_len, shaL_len, overL_len, macKey_len, hmacL_len, tgL_len, outN_len, expN_len, infoL_len, derL_len]; omega))) ?_
    refine hl_y rfl rfl rfl (y_as (y_neqn (q := 32) rfl rfl rfl ) (congrArg Value.bool (decide_eq_false (by omega)))) ?_
    refine hl_y rfl rfl rfl (y_move rfl rfl) ?_
    refine hl_yg 3 17 false rfl rfl rfl rfl rfl (y_move rfl rfl) ?_
    refine hl_yg 3 17 false rfl rfl rfl rfl rfl (y_lenE (nl.length) rfl rfl S22 rfl (rdF hn) (by first | rfl | (simp only [ls_len, ns_len, List.length_append, List.length_take, List.length_drop, List.length_replicate, List.length_cons, List.length_nil, putL_len, shaL_len, overL_len, macKey_len, hmacL_len, tgL_len, outN_len, expN_len, infoL_len, derL_len]; done) | (simp only [ls_len, ns_len, List.length_append, List.length_take, List.length_drop, List.length_replicate, List.length_cons, List.length_nil, putL_len, shaL_len, overL_len, macKey_len, hmacL_len, tgL_len, outN_len, expN_len, infoL_len, derL_len]; omega))) ?_
    refine hl_yg 3 17 false rfl rfl rfl rfl rfl (y_as (y_neqn (q := 16) rfl rfl rfl ) (congrArg Value.bool (decide_eq_true (by omega)))) ?_
    refine hl_y rfl rfl rfl (y_pick (b := false) rfl rfl rfl) ?_
    refine hl_y rfl rfl rfl (y_assign rfl rfl) ?_
    refine hl_nil ?_
    refine hq_then ?_
    refine hc_ifT rfl ?_
    refine hc_seq ?_
    refine hc_region ?_
    refine hl_y rfl rfl rfl (y_assign rfl rfl) ?_
    refine hl_y rfl rfl rfl (y_assign (v := vi 4) rfl rfl) ?_
    refine hl_nil ?_
    refine hq_then ?_
    refine hc_ret ?_
    exact hq_in_ret (hq_then_ret (hq_ret2 (()) rfl (rv_tmp rfl) (rv_tmp rfl) rfl (fun _ h => Mm.pick h [] (by simp))))
  · skip
    refine hc_region ?_
    refine hl_y rfl rfl rfl (y_move rfl rfl) ?_
    refine hl_y rfl rfl rfl (y_lenE (kl.length) rfl rfl S22 rfl (rdF hk) (by first | rfl | (simp only [ls_len, ns_len, List.length_append, List.length_take, List.length_drop, List.length_replicate, List.length_cons, List.length_nil, putL_len, shaL_len, overL_len, macKey_len, hmacL_len, tgL_len, outN_len, expN_len, infoL_len, derL_len]; done) | (simp only [ls_len, ns_len, List.length_append, List.length_take, List.length_drop, List.length_replicate, List.length_cons, List.length_nil, putL_len, shaL_len, overL_len, macKey_len, hmacL_len, tgL_len, outN_len, expN_len, infoL_len, derL_len]; omega))) ?_
    refine hl_y rfl rfl rfl (y_as (y_neqn (q := 32) rfl rfl rfl ) (congrArg Value.bool (decide_eq_true (by omega)))) ?_
    refine hl_y rfl rfl rfl (y_move rfl rfl) ?_
    refine hl_no 3 17 false true rfl rfl rfl rfl rfl rfl ?_
    refine hl_no 3 17 false true rfl rfl rfl rfl rfl rfl ?_
    refine hl_no 3 17 false true rfl rfl rfl rfl rfl rfl ?_
    refine hl_y rfl rfl rfl (y_pick (b := true) rfl rfl rfl) ?_
    refine hl_y rfl rfl rfl (y_assign rfl rfl) ?_
    refine hl_nil ?_
    refine hq_then ?_
    refine hc_ifT rfl ?_
    refine hc_seq ?_
    refine hc_region ?_
    refine hl_y rfl rfl rfl (y_assign rfl rfl) ?_
    refine hl_y rfl rfl rfl (y_assign (v := vi 4) rfl rfl) ?_
    refine hl_nil ?_
    refine hq_then ?_
    refine hc_ret ?_
    exact hq_in_ret (hq_then_ret (hq_ret2 (()) rfl (rv_tmp rfl) (rv_tmp rfl) rfl (fun _ h => Mm.pick h [] (by simp))))

theorem r13_Seal_ok (kl : List UInt8) (kv : Value) (nl : List UInt8) (nv : Value) (tl : List UInt8) (tv : Value) (w : World) (hk : Rd w kv (ls vb kl)) (hn : Rd w nv (ls vb nl)) (ht : Rd w tv (ls vb tl)) (h1 : kl.length = 32) (h2 : nl.length = 16) (h3 : tl.length ≤ 60000) : Ct Tryd.prog 57 #[kv, nv, tv] w (fun v : Value => .tuple #[v, vi 0]) (fun v => [.row 5 v (ls vb (sealL kl nl tl))]) := by
  refine ct_of Tryd.func57 rfl Tryd.ntmps57 rfl ?_
  refine hc_seq ?_
  refine hc_region ?_
  refine hl_y rfl rfl rfl (y_assign rfl rfl) ?_
  refine hl_y rfl rfl rfl (y_assign (v := vi 0) rfl rfl) ?_
  refine hl_nil ?_
  refine hq_then ?_
  refine hc_seq ?_
  refine hc_seq ?_
  refine hc_region ?_
  refine hl_y rfl rfl rfl (y_move rfl rfl) ?_
  refine hl_y rfl rfl rfl (y_lenE (kl.length) rfl rfl S22 rfl (rdF hk) (by first | rfl | (simp only [ls_len, ns_len, List.length_append, List.length_take, List.length_drop, List.length_replicate, List.length_cons, List.length_nil, putL_len, shaL_len, overL_len, macKey_len, hmacL_len, tgL_len, outN_len, expN_len, infoL_len, derL_len]; done) | (simp only [ls_len, ns_len, List.length_append, List.length_take, List.length_drop, List.length_replicate, List.length_cons, List.length_nil, putL_len, shaL_len, overL_len, macKey_len, hmacL_len, tgL_len, outN_len, expN_len, infoL_len, derL_len]; omega))) ?_
  refine hl_y rfl rfl rfl (y_as (y_neqn (q := 32) rfl rfl rfl ) (congrArg Value.bool (decide_eq_false (by omega)))) ?_
  refine hl_y rfl rfl rfl (y_move rfl rfl) ?_
  refine hl_yg 3 14 false rfl rfl rfl rfl rfl (y_move rfl rfl) ?_
  refine hl_yg 3 14 false rfl rfl rfl rfl rfl (y_lenE (nl.length) rfl rfl S22 rfl (rdF hn) (by first | rfl | (simp only [ls_len, ns_len, List.length_append, List.length_take, List.length_drop, List.length_replicate, List.length_cons, List.length_nil, putL_len, shaL_len, overL_len, macKey_len, hmacL_len, tgL_len, outN_len, expN_len, infoL_len, derL_len]; done) | (simp only [ls_len, ns_len, List.length_append, List.length_take, List.length_drop, List.length_replicate, List.length_cons, List.length_nil, putL_len, shaL_len, overL_len, macKey_len, hmacL_len, tgL_len, outN_len, expN_len, infoL_len, derL_len]; omega))) ?_
  refine hl_yg 3 14 false rfl rfl rfl rfl rfl (y_as (y_neqn (q := 16) rfl rfl rfl ) (congrArg Value.bool (decide_eq_false (by omega)))) ?_
  refine hl_y rfl rfl rfl (y_pick (b := false) rfl rfl rfl) ?_
  refine hl_nil ?_
  refine hq_then ?_
  refine hc_ifF rfl ?_
  refine hc_skip ?_
  refine hq_then ?_
  refine hc_seq ?_
  refine hc_seq ?_
  refine hc_region ?_
  refine hl_y rfl rfl rfl (y_move rfl rfl) ?_
  refine hl_y rfl rfl rfl (y_lenE (tl.length) rfl rfl S22 rfl (rdF ht) (by first | rfl | (simp only [ls_len, ns_len, List.length_append, List.length_take, List.length_drop, List.length_replicate, List.length_cons, List.length_nil, putL_len, shaL_len, overL_len, macKey_len, hmacL_len, tgL_len, outN_len, expN_len, infoL_len, derL_len]; done) | (simp only [ls_len, ns_len, List.length_append, List.length_take, List.length_drop, List.length_replicate, List.length_cons, List.length_nil, putL_len, shaL_len, overL_len, macKey_len, hmacL_len, tgL_len, outN_len, expN_len, infoL_len, derL_len]; omega))) ?_
  refine hl_y rfl rfl rfl (y_as (y_gtrn (q := 60000) rfl rfl rfl ) (congrArg Value.bool (decide_eq_false (by omega)))) ?_
  refine hl_nil ?_
  refine hq_then ?_
  refine hc_ifF rfl ?_
  refine hc_skip ?_
  refine hq_then ?_
  refine hc_seq ?_
  refine hc_region ?_
  refine hl_y rfl rfl rfl (y_move rfl rfl) ?_
  refine hl_i rfl rfl rfl (e_call rfl F53 rfl (fun w hw => r09_Derive_ct kl _ ([115, 101, 97, 108]) w ((rdF hk) w hw) (by first | omega | (simp only [List.length_append, List.length_take, List.length_drop, List.length_replicate, List.length_cons, List.length_nil, putL_len, shaL_len, overL_len, macKey_len, hmacL_len, tgL_len, outN_len, expN_len, infoL_len, derL_len]; omega) | (simp only [List.length_append, List.length_take, List.length_drop, List.length_replicate, List.length_cons, List.length_nil, putL_len, shaL_len, overL_len, macKey_len, hmacL_len, tgL_len, outN_len, expN_len, infoL_len, derL_len] at *; omega)) (by first | omega | decide | (simp; omega))) rfl) ?_; intro y24
  refine hl_y rfl rfl rfl (y_move rfl rfl) ?_
  refine hl_y rfl rfl rfl (y_move rfl rfl) ?_
  refine hl_i rfl rfl rfl (e_call rfl F60 rfl (fun w hw => r12_Over_ct (derL kl [115, 101, 97, 108]) nl _ _ tl _ w (((rdW2 0 rfl (derL_len _ _))) w hw) ((rdF hn) w hw) ((rdF ht) w hw) (by omega)) rfl) ?_; intro y27
  refine HL.mem (fun _ h => h.setr 0 rfl (congrArg (ls vb) (over_eq _ _ _).symm)) ?_
  refine hl_y rfl rfl rfl (y_move rfl rfl) ?_
  refine hl_y rfl rfl rfl (y_extract rfl rfl rfl) ?_
  refine hl_y rfl rfl rfl (y_extract rfl rfl rfl) ?_
  refine hl_y rfl rfl rfl (y_assign rfl rfl) ?_
  refine hl_y rfl rfl rfl (y_assign rfl rfl) ?_
  refine hl_nil ?_
  refine hq_then ?_
  refine hc_seq ?_
  refine hc_region ?_
  refine hl_y rfl rfl rfl (y_move rfl rfl) ?_
  refine hl_y rfl rfl rfl (y_move rfl rfl) ?_
  refine hl_i rfl rfl rfl (e_call rfl F32 rfl (fun w hw => r01_Join_ct nl (over (derL kl [115, 101, 97, 108]) nl tl) _ _ w ((rdF hn) w hw) ((rdR 0 rfl) w hw) (by first | omega | (have hov := over_le (derL kl [115, 101, 97, 108]) nl tl; omega) | (have hov := over_le (derL kl [115, 101, 97, 108]) nl tl; simp only [List.length_append, List.length_take, List.length_drop, List.length_replicate, List.length_cons, List.length_nil, putL_len, shaL_len, overL_len, macKey_len, hmacL_len, tgL_len, outN_len, expN_len, infoL_len, derL_len]; omega))) rfl) ?_; intro y32
  refine hl_y rfl rfl rfl (y_assign rfl rfl) ?_
  refine hl_nil ?_
  refine hq_then ?_
  refine hc_seq ?_
  refine hc_region ?_
  refine hl_y rfl rfl rfl (y_move rfl rfl) ?_
  refine hl_y rfl rfl rfl (y_move rfl rfl) ?_
  refine hl_i rfl rfl rfl (e_call rfl F53 rfl (fun w hw => r09_Derive_ct kl _ ([116, 97, 103]) w ((rdF hk) w hw) (by first | omega | (simp only [List.length_append, List.length_take, List.length_drop, List.length_replicate, List.length_cons, List.length_nil, putL_len, shaL_len, overL_len, macKey_len, hmacL_len, tgL_len, outN_len, expN_len, infoL_len, derL_len]; omega) | (simp only [List.length_append, List.length_take, List.length_drop, List.length_replicate, List.length_cons, List.length_nil, putL_len, shaL_len, overL_len, macKey_len, hmacL_len, tgL_len, outN_len, expN_len, infoL_len, derL_len] at *; omega)) (by first | omega | decide | (simp; omega))) rfl) ?_; intro y35
  refine hl_y rfl rfl rfl (y_move rfl rfl) ?_
  refine hl_i rfl rfl rfl (e_call rfl F42 rfl (fun w hw => r08_Of_ct (derL kl ([116, 97, 103])) _ (nl ++ (over (derL kl [115, 101, 97, 108]) nl tl)) _ w (((rdW2 0 rfl (derL_len _ _))) w hw) (by first | omega | (have hov := over_le (derL kl [115, 101, 97, 108]) nl tl; omega) | (have hov := over_le (derL kl [115, 101, 97, 108]) nl tl; simp only [List.length_append, List.length_take, List.length_drop, List.length_replicate, List.length_cons, List.length_nil, putL_len, shaL_len, overL_len, macKey_len, hmacL_len, tgL_len, outN_len, expN_len, infoL_len, derL_len]; omega)) ((rdR 1 rfl) w hw) (by first | omega | (have hov := over_le (derL kl [115, 101, 97, 108]) nl tl; omega) | (have hov := over_le (derL kl [115, 101, 97, 108]) nl tl; simp only [List.length_append, List.length_take, List.length_drop, List.length_replicate, List.length_cons, List.length_nil, putL_len, shaL_len, overL_len, macKey_len, hmacL_len, tgL_len, outN_len, expN_len, infoL_len, derL_len]; omega))) rfl) ?_; intro y37
  refine hl_i rfl rfl rfl (e_call rfl F32 rfl (fun w hw => r01_Join_ct (nl ++ (over (derL kl [115, 101, 97, 108]) nl tl)) (hmacL (derL kl ([116, 97, 103])) (nl ++ (over (derL kl [115, 101, 97, 108]) nl tl))) _ _ w ((rdR 2 rfl) w hw) ((rdR 0 rfl) w hw) (by first | omega | (have hov := over_le (derL kl [115, 101, 97, 108]) nl tl; omega) | (have hov := over_le (derL kl [115, 101, 97, 108]) nl tl; simp only [List.length_append, List.length_take, List.length_drop, List.length_replicate, List.length_cons, List.length_nil, putL_len, shaL_len, overL_len, macKey_len, hmacL_len, tgL_len, outN_len, expN_len, infoL_len, derL_len]; omega))) rfl) ?_; intro y38
  refine hl_y rfl rfl rfl (y_assign rfl rfl) ?_
  refine hl_y rfl rfl rfl (y_assign (v := vi 0) rfl rfl) ?_
  refine hl_nil ?_
  refine hq_then ?_
  refine hc_ret ?_
  exact hq_ret2 (y38) rfl (rv_tmp rfl) (rv_tmp rfl) rfl (fun _ h => Mm.pick h [0] (by decide))

theorem r13_Seal_no (kl : List UInt8) (kv : Value) (nl : List UInt8) (nv : Value) (tl : List UInt8) (tv : Value) (w : World) (hk : Rd w kv (ls vb kl)) (hn : Rd w nv (ls vb nl)) (ht : Rd w tv (ls vb tl)) (h : ¬ (kl.length = 32 ∧ nl.length = 16)) : Ct0 Tryd.prog 57 #[kv, nv, tv] w (.tuple #[.slice none 0 0, vi 4]) := by
  refine ct0_of Tryd.func57 rfl Tryd.ntmps57 rfl ?_
  refine hc_seq ?_
  refine hc_region ?_
  refine hl_y rfl rfl rfl (y_assign rfl rfl) ?_
  refine hl_y rfl rfl rfl (y_assign (v := vi 0) rfl rfl) ?_
  refine hl_nil ?_
  refine hq_then ?_
  refine hc_seq ?_
  refine hc_seq ?_
  rcases Decidable.em (kl.length = 32) with c0 | c0
  · skip
    refine hc_region ?_
    refine hl_y rfl rfl rfl (y_move rfl rfl) ?_
    refine hl_y rfl rfl rfl (y_lenE (kl.length) rfl rfl S22 rfl (rdF hk) (by first | rfl | (simp only [ls_len, ns_len, List.length_append, List.length_take, List.length_drop, List.length_replicate, List.length_cons, List.length_nil, putL_len, shaL_len, overL_len, macKey_len, hmacL_len, tgL_len, outN_len, expN_len, infoL_len, derL_len]; done) | (simp only [ls_len, ns_len, List.length_append, List.length_take, List.length_drop, List.length_replicate, List.length_cons, List.length_nil, putL_len, shaL_len, overL_len, macKey_len, hmacL_len, tgL_len, outN_len, expN_len, infoL_len, derL_len]; omega))) ?_
    refine hl_y rfl rfl rfl (y_as (y_neqn (q := 32) rfl rfl rfl ) (congrArg Value.bool (decide_eq_false (by omega)))) ?_
    refine hl_y rfl rfl rfl (y_move rfl rfl) ?_
    refine hl_yg 3 14 false rfl rfl rfl rfl rfl (y_move rfl rfl) ?_
    refine hl_yg 3 14 false rfl rfl rfl rfl rfl (y_lenE (nl.length) rfl rfl S22 rfl (rdF hn) (by first | rfl | (simp only [ls_len, ns_len, List.length_append, List.length_take, List.length_drop, List.length_replicate, List.length_cons, List.length_nil, putL_len, shaL_len, overL_len, macKey_len, hmacL_len, tgL_len, outN_len, expN_len, infoL_len, derL_len]; done) | (simp only [ls_len, ns_len, List.length_append, List.length_take, List.length_drop, List.length_replicate, List.length_cons, List.length_nil, putL_len, shaL_len, overL_len, macKey_len, hmacL_len, tgL_len, outN_len, expN_len, infoL_len, derL_len]; omega))) ?_
    refine hl_yg 3 14 false rfl rfl rfl rfl rfl (y_as (y_neqn (q := 16) rfl rfl rfl ) (congrArg Value.bool (decide_eq_true (by omega)))) ?_
    refine hl_y rfl rfl rfl (y_pick (b := false) rfl rfl rfl) ?_
    refine hl_nil ?_
    refine hq_then ?_
    refine hc_ifT rfl ?_
    refine hc_seq ?_
    refine hc_region ?_
    refine hl_y rfl rfl rfl (y_assign rfl rfl) ?_
    refine hl_y rfl rfl rfl (y_assign (v := vi 4) rfl rfl) ?_
    refine hl_nil ?_
    refine hq_then ?_
    refine hc_ret ?_
    exact hq_then_ret (hq_ret2 (()) rfl (rv_tmp rfl) (rv_tmp rfl) rfl (fun _ h => Mm.pick h [] (by simp)))
  · skip
    refine hc_region ?_
    refine hl_y rfl rfl rfl (y_move rfl rfl) ?_
    refine hl_y rfl rfl rfl (y_lenE (kl.length) rfl rfl S22 rfl (rdF hk) (by first | rfl | (simp only [ls_len, ns_len, List.length_append, List.length_take, List.length_drop, List.length_replicate, List.length_cons, List.length_nil, putL_len, shaL_len, overL_len, macKey_len, hmacL_len, tgL_len, outN_len, expN_len, infoL_len, derL_len]; done) | (simp only [ls_len, ns_len, List.length_append, List.length_take, List.length_drop, List.length_replicate, List.length_cons, List.length_nil, putL_len, shaL_len, overL_len, macKey_len, hmacL_len, tgL_len, outN_len, expN_len, infoL_len, derL_len]; omega))) ?_
    refine hl_y rfl rfl rfl (y_as (y_neqn (q := 32) rfl rfl rfl ) (congrArg Value.bool (decide_eq_true (by omega)))) ?_
    refine hl_y rfl rfl rfl (y_move rfl rfl) ?_
    refine hl_no 3 14 false true rfl rfl rfl rfl rfl rfl ?_
    refine hl_no 3 14 false true rfl rfl rfl rfl rfl rfl ?_
    refine hl_no 3 14 false true rfl rfl rfl rfl rfl rfl ?_
    refine hl_y rfl rfl rfl (y_pick (b := true) rfl rfl rfl) ?_
    refine hl_nil ?_
    refine hq_then ?_
    refine hc_ifT rfl ?_
    refine hc_seq ?_
    refine hc_region ?_
    refine hl_y rfl rfl rfl (y_assign rfl rfl) ?_
    refine hl_y rfl rfl rfl (y_assign (v := vi 4) rfl rfl) ?_
    refine hl_nil ?_
    refine hq_then ?_
    refine hc_ret ?_
    exact hq_then_ret (hq_ret2 (()) rfl (rv_tmp rfl) (rv_tmp rfl) rfl (fun _ h => Mm.pick h [] (by simp)))

end Go.Proofs.YtcdidapkpfnphaaDoor
