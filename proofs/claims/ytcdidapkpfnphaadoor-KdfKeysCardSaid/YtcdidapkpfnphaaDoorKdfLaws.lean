/- The laws of derived keys: each call gives back true. -/
import Derived.Test.YtcdidapkpfnphaaDoorKdfB
import Derived.Test.YtcdidapkpfnphaaDoorCtrB
namespace Go.Proofs.YtcdidapkpfnphaaDoor
open Go.RowKit
set_option linter.unusedVariables false
set_option linter.unusedSimpArgs false
set_option maxRecDepth 100000
theorem law09_alive_ct (w : World) (hkl : KL w) : Ct0 Tryd.prog 47 #[] w (.bool true) := by
  refine ct0_of Tryd.func47 rfl Tryd.ntmps47 rfl ?_
  refine hc_seq ?_
  refine hc_region ?_
  refine hl_y rfl rfl rfl (y_assign rfl rfl) ?_
  refine hl_nil ?_
  refine hq_then ?_
  refine hc_seq ?_
  refine hc_region ?_
  refine hl_i rfl rfl rfl (e_call rfl F52 rfl (fun w hw => kdf_Derive_ct [] _ [97] w (rd_nilb w hw) (by decide) (by decide) (hkl.below (Mm.out hw).low)) rfl) ?_; intro y1
  refine hl_y rfl rfl rfl (y_lenE (32) rfl rfl S22 rfl ((rdW3 0 rfl (derL_len _ _))) (by first | rfl | (simp only [ls_len, ns_len, List.length_append, List.length_take, List.length_drop, List.length_replicate, List.length_cons, List.length_nil, putL_len, shaL_len, overL_len, macKey_len, hmacL_len, tgL_len, outN_len, expN_len, infoL_len, derL_len]; done) | (simp only [ls_len, ns_len, List.length_append, List.length_take, List.length_drop, List.length_replicate, List.length_cons, List.length_nil, putL_len, shaL_len, overL_len, macKey_len, hmacL_len, tgL_len, outN_len, expN_len, infoL_len, derL_len]; omega))) ?_
  refine hl_y rfl rfl rfl (y_as (y_eqln (q := 32) rfl rfl rfl ) (congrArg Value.bool (decide_eq_true (by omega)))) ?_
  refine hl_y rfl rfl rfl (y_assign rfl rfl) ?_
  refine hl_nil ?_
  refine hq_then ?_
  refine hc_ret ?_
  exact hq_ret1 (()) rfl (rv_tmp rfl) rfl (fun _ h => Mm.pick h [] (by simp))

set_option maxHeartbeats 1000000 in
theorem kdfBytes_ok (kl : List UInt8) (kv : Value) (tl : List UInt8) (tv : Value) (il : List UInt8) (iv : Value) (n : Nat) (h1 : 1 ≤ n) (h2 : n ≤ 300) (w : World) (hk : Rd w kv (ls vb kl)) (mk : kl.length ≤ 9223372036854775807) (ht : Rd w tv (ls vb tl)) (mt : tl.length ≤ 9223372036854775807) (hi : Rd w iv (ls vb il)) (mi : il.length ≤ 9223372036854775807) (hkl : KL w) : Ct0 Tryd.prog 12 #[kv, tv, iv, vi n] w (.bool true) := by
  refine ct0_of Tryd.func12 rfl Tryd.ntmps12 rfl ?_
  refine hc_seq ?_
  refine hc_region ?_
  refine hl_y rfl rfl rfl (y_assign rfl rfl) ?_
  refine hl_nil ?_
  refine hq_then ?_
  refine hc_seq ?_
  refine hc_seq ?_
  rcases Decidable.em (200 < kl.length) with k0 | k0
  · skip
    refine hc_region ?_
    refine hl_y rfl rfl rfl (y_move rfl rfl) ?_
    refine hl_y rfl rfl rfl (y_lenE (kl.length) rfl rfl S22 rfl (rdF hk) (by first | rfl | (simp only [ls_len, ns_len, List.length_append, List.length_take, List.length_drop, List.length_replicate, List.length_cons, List.length_nil, putL_len, shaL_len, overL_len, macKey_len, hmacL_len, tgL_len, outN_len, expN_len, infoL_len, derL_len]; done) | (simp only [ls_len, ns_len, List.length_append, List.length_take, List.length_drop, List.length_replicate, List.length_cons, List.length_nil, putL_len, shaL_len, overL_len, macKey_len, hmacL_len, tgL_len, outN_len, expN_len, infoL_len, derL_len]; omega))) ?_
    refine hl_y rfl rfl rfl (y_as (y_gtrn (q := 200) rfl rfl rfl ) (congrArg Value.bool (decide_eq_true (by omega)))) ?_
    refine hl_y rfl rfl rfl (y_move rfl rfl) ?_
    refine hl_no 3 16 false true rfl rfl rfl rfl rfl rfl ?_
    refine hl_no 3 16 false true rfl rfl rfl rfl rfl rfl ?_
    refine hl_no 3 16 false true rfl rfl rfl rfl rfl rfl ?_
    refine hl_y rfl rfl rfl (y_pick (b := true) rfl rfl rfl) ?_
    refine hl_y rfl rfl rfl (y_move rfl rfl) ?_
    refine hl_no 8 21 false true rfl rfl rfl rfl rfl rfl ?_
    refine hl_no 8 21 false true rfl rfl rfl rfl rfl rfl ?_
    refine hl_no 8 21 false true rfl rfl rfl rfl rfl rfl ?_
    refine hl_y rfl rfl rfl (y_pick (b := true) rfl rfl rfl) ?_
    refine hl_y rfl rfl rfl (y_move rfl rfl) ?_
    refine hl_no 13 26 false true rfl rfl rfl rfl rfl rfl ?_
    refine hl_no 13 26 false true rfl rfl rfl rfl rfl rfl ?_
    refine hl_no 13 26 false true rfl rfl rfl rfl rfl rfl ?_
    refine hl_nou 16 29 true rfl rfl rfl rfl rfl ?_
    refine hl_nou 16 29 true rfl rfl rfl rfl rfl ?_
    refine hl_no 13 26 false true rfl rfl rfl rfl rfl rfl ?_
    refine hl_y rfl rfl rfl (y_pick (b := true) rfl rfl rfl) ?_
    refine hl_nil ?_
    refine hq_then ?_
    refine hc_ifT rfl ?_
    refine hc_seq ?_
    refine hc_region ?_
    refine hl_i rfl rfl rfl (e_call0 rfl F47 rfl (fun w hw => law09_alive_ct w (hkl.below (Mm.out hw).low)) rfl) ?_; intro _
    refine hl_y rfl rfl rfl (y_assign rfl rfl) ?_
    refine hl_nil ?_
    refine hq_then ?_
    refine hc_ret ?_
    exact hq_then_ret (hq_ret1 (()) rfl (rv_tmp rfl) rfl (fun _ h => Mm.pick h [] (by simp)))
  · skip
    rcases Decidable.em (200 < tl.length) with k1 | k1
    · skip
      refine hc_region ?_
      refine hl_y rfl rfl rfl (y_move rfl rfl) ?_
      refine hl_y rfl rfl rfl (y_lenE (kl.length) rfl rfl S22 rfl (rdF hk) (by first | rfl | (simp only [ls_len, ns_len, List.length_append, List.length_take, List.length_drop, List.length_replicate, List.length_cons, List.length_nil, putL_len, shaL_len, overL_len, macKey_len, hmacL_len, tgL_len, outN_len, expN_len, infoL_len, derL_len]; done) | (simp only [ls_len, ns_len, List.length_append, List.length_take, List.length_drop, List.length_replicate, List.length_cons, List.length_nil, putL_len, shaL_len, overL_len, macKey_len, hmacL_len, tgL_len, outN_len, expN_len, infoL_len, derL_len]; omega))) ?_
      refine hl_y rfl rfl rfl (y_as (y_gtrn (q := 200) rfl rfl rfl ) (congrArg Value.bool (decide_eq_false (by omega)))) ?_
      refine hl_y rfl rfl rfl (y_move rfl rfl) ?_
      refine hl_yg 3 16 false rfl rfl rfl rfl rfl (y_move rfl rfl) ?_
      refine hl_yg 3 16 false rfl rfl rfl rfl rfl (y_lenE (tl.length) rfl rfl S22 rfl (rdF ht) (by first | rfl | (simp only [ls_len, ns_len, List.length_append, List.length_take, List.length_drop, List.length_replicate, List.length_cons, List.length_nil, putL_len, shaL_len, overL_len, macKey_len, hmacL_len, tgL_len, outN_len, expN_len, infoL_len, derL_len]; done) | (simp only [ls_len, ns_len, List.length_append, List.length_take, List.length_drop, List.length_replicate, List.length_cons, List.length_nil, putL_len, shaL_len, overL_len, macKey_len, hmacL_len, tgL_len, outN_len, expN_len, infoL_len, derL_len]; omega))) ?_
      refine hl_yg 3 16 false rfl rfl rfl rfl rfl (y_as (y_gtrn (q := 200) rfl rfl rfl ) (congrArg Value.bool (decide_eq_true (by omega)))) ?_
      refine hl_y rfl rfl rfl (y_pick (b := false) rfl rfl rfl) ?_
      refine hl_y rfl rfl rfl (y_move rfl rfl) ?_
      refine hl_no 8 21 false true rfl rfl rfl rfl rfl rfl ?_
      refine hl_no 8 21 false true rfl rfl rfl rfl rfl rfl ?_
      refine hl_no 8 21 false true rfl rfl rfl rfl rfl rfl ?_
      refine hl_y rfl rfl rfl (y_pick (b := true) rfl rfl rfl) ?_
      refine hl_y rfl rfl rfl (y_move rfl rfl) ?_
      refine hl_no 13 26 false true rfl rfl rfl rfl rfl rfl ?_
      refine hl_no 13 26 false true rfl rfl rfl rfl rfl rfl ?_
      refine hl_no 13 26 false true rfl rfl rfl rfl rfl rfl ?_
      refine hl_nou 16 29 true rfl rfl rfl rfl rfl ?_
      refine hl_nou 16 29 true rfl rfl rfl rfl rfl ?_
      refine hl_no 13 26 false true rfl rfl rfl rfl rfl rfl ?_
      refine hl_y rfl rfl rfl (y_pick (b := true) rfl rfl rfl) ?_
      refine hl_nil ?_
      refine hq_then ?_
      refine hc_ifT rfl ?_
      refine hc_seq ?_
      refine hc_region ?_
      refine hl_i rfl rfl rfl (e_call0 rfl F47 rfl (fun w hw => law09_alive_ct w (hkl.below (Mm.out hw).low)) rfl) ?_; intro _
      refine hl_y rfl rfl rfl (y_assign rfl rfl) ?_
      refine hl_nil ?_
      refine hq_then ?_
      refine hc_ret ?_
      exact hq_then_ret (hq_ret1 (()) rfl (rv_tmp rfl) rfl (fun _ h => Mm.pick h [] (by simp)))
    · skip
      rcases Decidable.em (200 < il.length) with k2 | k2
      · skip
        refine hc_region ?_
        refine hl_y rfl rfl rfl (y_move rfl rfl) ?_
        refine hl_y rfl rfl rfl (y_lenE (kl.length) rfl rfl S22 rfl (rdF hk) (by first | rfl | (simp only [ls_len, ns_len, List.length_append, List.length_take, List.length_drop, List.length_replicate, List.length_cons, List.length_nil, putL_len, shaL_len, overL_len, macKey_len, hmacL_len, tgL_len, outN_len, expN_len, infoL_len, derL_len]; done) | (simp only [ls_len, ns_len, List.length_append, List.length_take, List.length_drop, List.length_replicate, List.length_cons, List.length_nil, putL_len, shaL_len, overL_len, macKey_len, hmacL_len, tgL_len, outN_len, expN_len, infoL_len, derL_len]; omega))) ?_
        refine hl_y rfl rfl rfl (y_as (y_gtrn (q := 200) rfl rfl rfl ) (congrArg Value.bool (decide_eq_false (by omega)))) ?_
        refine hl_y rfl rfl rfl (y_move rfl rfl) ?_
        refine hl_yg 3 16 false rfl rfl rfl rfl rfl (y_move rfl rfl) ?_
        refine hl_yg 3 16 false rfl rfl rfl rfl rfl (y_lenE (tl.length) rfl rfl S22 rfl (rdF ht) (by first | rfl | (simp only [ls_len, ns_len, List.length_append, List.length_take, List.length_drop, List.length_replicate, List.length_cons, List.length_nil, putL_len, shaL_len, overL_len, macKey_len, hmacL_len, tgL_len, outN_len, expN_len, infoL_len, derL_len]; done) | (simp only [ls_len, ns_len, List.length_append, List.length_take, List.length_drop, List.length_replicate, List.length_cons, List.length_nil, putL_len, shaL_len, overL_len, macKey_len, hmacL_len, tgL_len, outN_len, expN_len, infoL_len, derL_len]; omega))) ?_
        refine hl_yg 3 16 false rfl rfl rfl rfl rfl (y_as (y_gtrn (q := 200) rfl rfl rfl ) (congrArg Value.bool (decide_eq_false (by omega)))) ?_
        refine hl_y rfl rfl rfl (y_pick (b := false) rfl rfl rfl) ?_
        refine hl_y rfl rfl rfl (y_move rfl rfl) ?_
        refine hl_yg 8 21 false rfl rfl rfl rfl rfl (y_move rfl rfl) ?_
        refine hl_yg 8 21 false rfl rfl rfl rfl rfl (y_lenE (il.length) rfl rfl S22 rfl (rdF hi) (by first | rfl | (simp only [ls_len, ns_len, List.length_append, List.length_take, List.length_drop, List.length_replicate, List.length_cons, List.length_nil, putL_len, shaL_len, overL_len, macKey_len, hmacL_len, tgL_len, outN_len, expN_len, infoL_len, derL_len]; done) | (simp only [ls_len, ns_len, List.length_append, List.length_take, List.length_drop, List.length_replicate, List.length_cons, List.length_nil, putL_len, shaL_len, overL_len, macKey_len, hmacL_len, tgL_len, outN_len, expN_len, infoL_len, derL_len]; omega))) ?_
        refine hl_yg 8 21 false rfl rfl rfl rfl rfl (y_as (y_gtrn (q := 200) rfl rfl rfl ) (congrArg Value.bool (decide_eq_true (by omega)))) ?_
        refine hl_y rfl rfl rfl (y_pick (b := false) rfl rfl rfl) ?_
        refine hl_y rfl rfl rfl (y_move rfl rfl) ?_
        refine hl_no 13 26 false true rfl rfl rfl rfl rfl rfl ?_
        refine hl_no 13 26 false true rfl rfl rfl rfl rfl rfl ?_
        refine hl_no 13 26 false true rfl rfl rfl rfl rfl rfl ?_
        refine hl_nou 16 29 true rfl rfl rfl rfl rfl ?_
        refine hl_nou 16 29 true rfl rfl rfl rfl rfl ?_
        refine hl_no 13 26 false true rfl rfl rfl rfl rfl rfl ?_
        refine hl_y rfl rfl rfl (y_pick (b := true) rfl rfl rfl) ?_
        refine hl_nil ?_
        refine hq_then ?_
        refine hc_ifT rfl ?_
        refine hc_seq ?_
        refine hc_region ?_
        refine hl_i rfl rfl rfl (e_call0 rfl F47 rfl (fun w hw => law09_alive_ct w (hkl.below (Mm.out hw).low)) rfl) ?_; intro _
        refine hl_y rfl rfl rfl (y_assign rfl rfl) ?_
        refine hl_nil ?_
        refine hq_then ?_
        refine hc_ret ?_
        exact hq_then_ret (hq_ret1 (()) rfl (rv_tmp rfl) rfl (fun _ h => Mm.pick h [] (by simp)))
      · skip
        refine hc_region ?_
        refine hl_y rfl rfl rfl (y_move rfl rfl) ?_
        refine hl_y rfl rfl rfl (y_lenE (kl.length) rfl rfl S22 rfl (rdF hk) (by first | rfl | (simp only [ls_len, ns_len, List.length_append, List.length_take, List.length_drop, List.length_replicate, List.length_cons, List.length_nil, putL_len, shaL_len, overL_len, macKey_len, hmacL_len, tgL_len, outN_len, expN_len, infoL_len, derL_len]; done) | (simp only [ls_len, ns_len, List.length_append, List.length_take, List.length_drop, List.length_replicate, List.length_cons, List.length_nil, putL_len, shaL_len, overL_len, macKey_len, hmacL_len, tgL_len, outN_len, expN_len, infoL_len, derL_len]; omega))) ?_
        refine hl_y rfl rfl rfl (y_as (y_gtrn (q := 200) rfl rfl rfl ) (congrArg Value.bool (decide_eq_false (by omega)))) ?_
        refine hl_y rfl rfl rfl (y_move rfl rfl) ?_
        refine hl_yg 3 16 false rfl rfl rfl rfl rfl (y_move rfl rfl) ?_
        refine hl_yg 3 16 false rfl rfl rfl rfl rfl (y_lenE (tl.length) rfl rfl S22 rfl (rdF ht) (by first | rfl | (simp only [ls_len, ns_len, List.length_append, List.length_take, List.length_drop, List.length_replicate, List.length_cons, List.length_nil, putL_len, shaL_len, overL_len, macKey_len, hmacL_len, tgL_len, outN_len, expN_len, infoL_len, derL_len]; done) | (simp only [ls_len, ns_len, List.length_append, List.length_take, List.length_drop, List.length_replicate, List.length_cons, List.length_nil, putL_len, shaL_len, overL_len, macKey_len, hmacL_len, tgL_len, outN_len, expN_len, infoL_len, derL_len]; omega))) ?_
        refine hl_yg 3 16 false rfl rfl rfl rfl rfl (y_as (y_gtrn (q := 200) rfl rfl rfl ) (congrArg Value.bool (decide_eq_false (by omega)))) ?_
        refine hl_y rfl rfl rfl (y_pick (b := false) rfl rfl rfl) ?_
        refine hl_y rfl rfl rfl (y_move rfl rfl) ?_
        refine hl_yg 8 21 false rfl rfl rfl rfl rfl (y_move rfl rfl) ?_
        refine hl_yg 8 21 false rfl rfl rfl rfl rfl (y_lenE (il.length) rfl rfl S22 rfl (rdF hi) (by first | rfl | (simp only [ls_len, ns_len, List.length_append, List.length_take, List.length_drop, List.length_replicate, List.length_cons, List.length_nil, putL_len, shaL_len, overL_len, macKey_len, hmacL_len, tgL_len, outN_len, expN_len, infoL_len, derL_len]; done) | (simp only [ls_len, ns_len, List.length_append, List.length_take, List.length_drop, List.length_replicate, List.length_cons, List.length_nil, putL_len, shaL_len, overL_len, macKey_len, hmacL_len, tgL_len, outN_len, expN_len, infoL_len, derL_len]; omega))) ?_
        refine hl_yg 8 21 false rfl rfl rfl rfl rfl (y_as (y_gtrn (q := 200) rfl rfl rfl ) (congrArg Value.bool (decide_eq_false (by omega)))) ?_
        refine hl_y rfl rfl rfl (y_pick (b := false) rfl rfl rfl) ?_
        refine hl_y rfl rfl rfl (y_move rfl rfl) ?_
        refine hl_yg 13 26 false rfl rfl rfl rfl rfl (y_move rfl rfl) ?_
        refine hl_yg 13 26 false rfl rfl rfl rfl rfl (y_as (y_gtrn (q := 300) rfl rfl rfl ) (congrArg Value.bool (decide_eq_false (by omega)))) ?_
        refine hl_yg 13 26 false rfl rfl rfl rfl rfl (y_move rfl rfl) ?_
        refine hl_no 16 29 true false rfl rfl rfl rfl rfl rfl ?_
        refine hl_no 16 29 true false rfl rfl rfl rfl rfl rfl ?_
        refine hl_yg 13 26 false rfl rfl rfl rfl rfl (y_pick (b := false) rfl rfl rfl) ?_
        refine hl_y rfl rfl rfl (y_pick (b := false) rfl rfl rfl) ?_
        refine hl_nil ?_
        refine hq_then ?_
        refine hc_ifF rfl ?_
        refine hc_skip ?_
        refine hq_then ?_
        refine hc_seq ?_
        refine hc_region ?_
        refine hl_y rfl rfl rfl (y_move rfl rfl) ?_
        refine hl_y rfl rfl rfl (y_move rfl rfl) ?_
        refine hl_y rfl rfl rfl (y_move rfl rfl) ?_
        refine hl_i rfl rfl rfl (e_call rfl F48 rfl (fun w hw => kdf_Expand_ok tl _ il _ n (by omega) (by omega) w ((rdF ht) w hw) (by first | omega | (simp only [List.length_append, List.length_take, List.length_drop, List.length_replicate, List.length_cons, List.length_nil, putL_len, shaL_len, overL_len, macKey_len, hmacL_len, tgL_len, outN_len, expN_len, infoL_len, derL_len]; omega) | (simp only [List.length_append, List.length_take, List.length_drop, List.length_replicate, List.length_cons, List.length_nil, putL_len, shaL_len, overL_len, macKey_len, hmacL_len, tgL_len, outN_len, expN_len, infoL_len, derL_len] at *; omega)) ((rdF hi) w hw) (by first | omega | (simp only [List.length_append, List.length_take, List.length_drop, List.length_replicate, List.length_cons, List.length_nil, putL_len, shaL_len, overL_len, macKey_len, hmacL_len, tgL_len, outN_len, expN_len, infoL_len, derL_len]; omega) | (simp only [List.length_append, List.length_take, List.length_drop, List.length_replicate, List.length_cons, List.length_nil, putL_len, shaL_len, overL_len, macKey_len, hmacL_len, tgL_len, outN_len, expN_len, infoL_len, derL_len] at *; omega)) (hkl.below (Mm.out hw).low)) rfl) ?_; intro y39
        refine hl_y rfl rfl rfl (y_move rfl rfl) ?_
        refine hl_y rfl rfl rfl (y_extract rfl rfl rfl) ?_
        refine hl_y rfl rfl rfl (y_extract rfl rfl rfl) ?_
        refine hl_y rfl rfl rfl (y_assign rfl rfl) ?_
        refine hl_y rfl rfl rfl (y_assign rfl rfl) ?_
        refine hl_nil ?_
        refine hq_then ?_
        refine hc_seq ?_
        refine hc_region ?_
        refine hl_y rfl rfl rfl (y_move rfl rfl) ?_
        refine hl_y rfl rfl rfl (y_move rfl rfl) ?_
        refine hl_y rfl rfl rfl (y_move rfl rfl) ?_
        refine hl_i rfl rfl rfl (e_call rfl F49 rfl (fun w hw => r09_Expand_ok tl _ il _ n (by omega) (by omega) w ((rdF ht) w hw) (by first | omega | (simp only [List.length_append, List.length_take, List.length_drop, List.length_replicate, List.length_cons, List.length_nil, putL_len, shaL_len, overL_len, macKey_len, hmacL_len, tgL_len, outN_len, expN_len, infoL_len, derL_len]; omega) | (simp only [List.length_append, List.length_take, List.length_drop, List.length_replicate, List.length_cons, List.length_nil, putL_len, shaL_len, overL_len, macKey_len, hmacL_len, tgL_len, outN_len, expN_len, infoL_len, derL_len] at *; omega)) ((rdF hi) w hw) (by first | omega | (simp only [List.length_append, List.length_take, List.length_drop, List.length_replicate, List.length_cons, List.length_nil, putL_len, shaL_len, overL_len, macKey_len, hmacL_len, tgL_len, outN_len, expN_len, infoL_len, derL_len]; omega) | (simp only [List.length_append, List.length_take, List.length_drop, List.length_replicate, List.length_cons, List.length_nil, putL_len, shaL_len, overL_len, macKey_len, hmacL_len, tgL_len, outN_len, expN_len, infoL_len, derL_len] at *; omega))) rfl) ?_; intro y46
        refine hl_y rfl rfl rfl (y_move rfl rfl) ?_
        refine hl_y rfl rfl rfl (y_extract rfl rfl rfl) ?_
        refine hl_y rfl rfl rfl (y_extract rfl rfl rfl) ?_
        refine hl_y rfl rfl rfl (y_assign rfl rfl) ?_
        refine hl_y rfl rfl rfl (y_assign rfl rfl) ?_
        refine hl_nil ?_
        refine hq_then ?_
        refine hc_seq ?_
        refine hc_region ?_
        refine hl_y rfl rfl rfl (y_move rfl rfl) ?_
        refine hl_y rfl rfl rfl (y_move rfl rfl) ?_
        refine hl_i rfl rfl rfl (e_call rfl F50 rfl (fun w hw => kdf_Extract_ct kl _ tl _ w ((rdF hk) w hw) (by first | omega | (simp only [List.length_append, List.length_take, List.length_drop, List.length_replicate, List.length_cons, List.length_nil, putL_len, shaL_len, overL_len, macKey_len, hmacL_len, tgL_len, outN_len, expN_len, infoL_len, derL_len]; omega) | (simp only [List.length_append, List.length_take, List.length_drop, List.length_replicate, List.length_cons, List.length_nil, putL_len, shaL_len, overL_len, macKey_len, hmacL_len, tgL_len, outN_len, expN_len, infoL_len, derL_len] at *; omega)) ((rdF ht) w hw) (by first | omega | (simp only [List.length_append, List.length_take, List.length_drop, List.length_replicate, List.length_cons, List.length_nil, putL_len, shaL_len, overL_len, macKey_len, hmacL_len, tgL_len, outN_len, expN_len, infoL_len, derL_len]; omega) | (simp only [List.length_append, List.length_take, List.length_drop, List.length_replicate, List.length_cons, List.length_nil, putL_len, shaL_len, overL_len, macKey_len, hmacL_len, tgL_len, outN_len, expN_len, infoL_len, derL_len] at *; omega)) (hkl.below (Mm.out hw).low)) rfl) ?_; intro y51
        refine hl_y rfl rfl rfl (y_move rfl rfl) ?_
        refine hl_y rfl rfl rfl (y_move rfl rfl) ?_
        refine hl_i rfl rfl rfl (e_call rfl F42 rfl (fun w hw => r08_Of_ct kl _ tl _ w ((rdF hk) w hw) (by first | omega | (simp only [List.length_append, List.length_take, List.length_drop, List.length_replicate, List.length_cons, List.length_nil, putL_len, shaL_len, overL_len, macKey_len, hmacL_len, tgL_len, outN_len, expN_len, infoL_len, derL_len]; omega) | (simp only [List.length_append, List.length_take, List.length_drop, List.length_replicate, List.length_cons, List.length_nil, putL_len, shaL_len, overL_len, macKey_len, hmacL_len, tgL_len, outN_len, expN_len, infoL_len, derL_len] at *; omega)) ((rdF ht) w hw) (by first | omega | (simp only [List.length_append, List.length_take, List.length_drop, List.length_replicate, List.length_cons, List.length_nil, putL_len, shaL_len, overL_len, macKey_len, hmacL_len, tgL_len, outN_len, expN_len, infoL_len, derL_len]; omega) | (simp only [List.length_append, List.length_take, List.length_drop, List.length_replicate, List.length_cons, List.length_nil, putL_len, shaL_len, overL_len, macKey_len, hmacL_len, tgL_len, outN_len, expN_len, infoL_len, derL_len] at *; omega))) rfl) ?_; intro y54
        refine hl_i rfl rfl rfl (e_call0 rfl F19 rfl (fun w hw => r01_Same_t _ _ _ _ w ((rdR 1 rfl) w hw) ((rdR 0 rfl) w hw) (by first | omega | (simp only [List.length_append, List.length_take, List.length_drop, List.length_replicate, List.length_cons, List.length_nil, putL_len, shaL_len, overL_len, macKey_len, hmacL_len, tgL_len, outN_len, expN_len, infoL_len, derL_len]; omega) | (simp only [List.length_append, List.length_take, List.length_drop, List.length_replicate, List.length_cons, List.length_nil, putL_len, shaL_len, overL_len, macKey_len, hmacL_len, tgL_len, outN_len, expN_len, infoL_len, derL_len] at *; omega)) (rfl)) rfl) ?_; intro _
        refine hl_y rfl rfl rfl (y_move rfl rfl) ?_
        refine hl_yg 7 56 true rfl rfl rfl rfl rfl (y_move rfl rfl) ?_
        refine hl_yg 7 56 true rfl rfl rfl rfl rfl (y_move rfl rfl) ?_
        refine hl_ig 7 56 true rfl rfl rfl rfl rfl (e_call0 rfl F19 rfl (fun w hw => r01_Same_t _ _ _ _ w (((rdX3 3 rfl)) w hw) (((rdX2 2 rfl)) w hw) (by first | omega | (simp only [List.length_append, List.length_take, List.length_drop, List.length_replicate, List.length_cons, List.length_nil, putL_len, shaL_len, overL_len, macKey_len, hmacL_len, tgL_len, outN_len, expN_len, infoL_len, derL_len]; omega) | (simp only [List.length_append, List.length_take, List.length_drop, List.length_replicate, List.length_cons, List.length_nil, putL_len, shaL_len, overL_len, macKey_len, hmacL_len, tgL_len, outN_len, expN_len, infoL_len, derL_len] at *; omega)) (rfl)) rfl) ?_; intro _
        refine hl_y rfl rfl rfl (y_pick (b := true) rfl rfl rfl) ?_
        refine hl_y rfl rfl rfl (y_move rfl rfl) ?_
        refine hl_yg 12 61 true rfl rfl rfl rfl rfl (y_move rfl rfl) ?_
        refine hl_yg 12 61 true rfl rfl rfl rfl rfl (y_move rfl rfl) ?_
        refine hl_yg 12 61 true rfl rfl rfl rfl rfl (y_as (y_eqln rfl rfl rfl ) (congrArg Value.bool (decide_eq_true (by omega)))) ?_
        refine hl_y rfl rfl rfl (y_pick (b := true) rfl rfl rfl) ?_
        refine hl_y rfl rfl rfl (y_move rfl rfl) ?_
        refine hl_ig 17 66 true rfl rfl rfl rfl rfl (e_call0 rfl F47 rfl (fun w hw => law09_alive_ct w (hkl.below (Mm.out hw).low)) rfl) ?_; intro _
        refine hl_y rfl rfl rfl (y_pick (b := true) rfl rfl rfl) ?_
        refine hl_y rfl rfl rfl (y_assign rfl rfl) ?_
        refine hl_nil ?_
        refine hq_then ?_
        refine hc_ret ?_
        exact hq_ret1 (()) rfl (rv_tmp rfl) rfl (fun _ h => Mm.pick h [] (by simp))

set_option maxHeartbeats 1000000 in
theorem kdfBytes_mid (kl : List UInt8) (kv : Value) (tl : List UInt8) (tv : Value) (il : List UInt8) (iv : Value) (n : Nat) (h1 : 300 < n) (h2 : n ≤ 8160) (w : World) (hk : Rd w kv (ls vb kl)) (mk : kl.length ≤ 9223372036854775807) (ht : Rd w tv (ls vb tl)) (mt : tl.length ≤ 9223372036854775807) (hi : Rd w iv (ls vb il)) (mi : il.length ≤ 9223372036854775807) (hkl : KL w) : Ct0 Tryd.prog 12 #[kv, tv, iv, vi n] w (.bool true) := by
  refine ct0_of Tryd.func12 rfl Tryd.ntmps12 rfl ?_
  refine hc_seq ?_
  refine hc_region ?_
  refine hl_y rfl rfl rfl (y_assign rfl rfl) ?_
  refine hl_nil ?_
  refine hq_then ?_
  refine hc_seq ?_
  refine hc_seq ?_
  rcases Decidable.em (200 < kl.length) with k0 | k0
  · skip
    refine hc_region ?_
    refine hl_y rfl rfl rfl (y_move rfl rfl) ?_
    refine hl_y rfl rfl rfl (y_lenE (kl.length) rfl rfl S22 rfl (rdF hk) (by first | rfl | (simp only [ls_len, ns_len, List.length_append, List.length_take, List.length_drop, List.length_replicate, List.length_cons, List.length_nil, putL_len, shaL_len, overL_len, macKey_len, hmacL_len, tgL_len, outN_len, expN_len, infoL_len, derL_len]; done) | (simp only [ls_len, ns_len, List.length_append, List.length_take, List.length_drop, List.length_replicate, List.length_cons, List.length_nil, putL_len, shaL_len, overL_len, macKey_len, hmacL_len, tgL_len, outN_len, expN_len, infoL_len, derL_len]; omega))) ?_
    refine hl_y rfl rfl rfl (y_as (y_gtrn (q := 200) rfl rfl rfl ) (congrArg Value.bool (decide_eq_true (by omega)))) ?_
    refine hl_y rfl rfl rfl (y_move rfl rfl) ?_
    refine hl_no 3 16 false true rfl rfl rfl rfl rfl rfl ?_
    refine hl_no 3 16 false true rfl rfl rfl rfl rfl rfl ?_
    refine hl_no 3 16 false true rfl rfl rfl rfl rfl rfl ?_
    refine hl_y rfl rfl rfl (y_pick (b := true) rfl rfl rfl) ?_
    refine hl_y rfl rfl rfl (y_move rfl rfl) ?_
    refine hl_no 8 21 false true rfl rfl rfl rfl rfl rfl ?_
    refine hl_no 8 21 false true rfl rfl rfl rfl rfl rfl ?_
    refine hl_no 8 21 false true rfl rfl rfl rfl rfl rfl ?_
    refine hl_y rfl rfl rfl (y_pick (b := true) rfl rfl rfl) ?_
    refine hl_y rfl rfl rfl (y_move rfl rfl) ?_
    refine hl_no 13 26 false true rfl rfl rfl rfl rfl rfl ?_
    refine hl_no 13 26 false true rfl rfl rfl rfl rfl rfl ?_
    refine hl_no 13 26 false true rfl rfl rfl rfl rfl rfl ?_
    refine hl_nou 16 29 true rfl rfl rfl rfl rfl ?_
    refine hl_nou 16 29 true rfl rfl rfl rfl rfl ?_
    refine hl_no 13 26 false true rfl rfl rfl rfl rfl rfl ?_
    refine hl_y rfl rfl rfl (y_pick (b := true) rfl rfl rfl) ?_
    refine hl_nil ?_
    refine hq_then ?_
    refine hc_ifT rfl ?_
    refine hc_seq ?_
    refine hc_region ?_
    refine hl_i rfl rfl rfl (e_call0 rfl F47 rfl (fun w hw => law09_alive_ct w (hkl.below (Mm.out hw).low)) rfl) ?_; intro _
    refine hl_y rfl rfl rfl (y_assign rfl rfl) ?_
    refine hl_nil ?_
    refine hq_then ?_
    refine hc_ret ?_
    exact hq_then_ret (hq_ret1 (()) rfl (rv_tmp rfl) rfl (fun _ h => Mm.pick h [] (by simp)))
  · skip
    rcases Decidable.em (200 < tl.length) with k1 | k1
    · skip
      refine hc_region ?_
      refine hl_y rfl rfl rfl (y_move rfl rfl) ?_
      refine hl_y rfl rfl rfl (y_lenE (kl.length) rfl rfl S22 rfl (rdF hk) (by first | rfl | (simp only [ls_len, ns_len, List.length_append, List.length_take, List.length_drop, List.length_replicate, List.length_cons, List.length_nil, putL_len, shaL_len, overL_len, macKey_len, hmacL_len, tgL_len, outN_len, expN_len, infoL_len, derL_len]; done) | (simp only [ls_len, ns_len, List.length_append, List.length_take, List.length_drop, List.length_replicate, List.length_cons, List.length_nil, putL_len, shaL_len, overL_len, macKey_len, hmacL_len, tgL_len, outN_len, expN_len, infoL_len, derL_len]; omega))) ?_
      refine hl_y rfl rfl rfl (y_as (y_gtrn (q := 200) rfl rfl rfl ) (congrArg Value.bool (decide_eq_false (by omega)))) ?_
      refine hl_y rfl rfl rfl (y_move rfl rfl) ?_
      refine hl_yg 3 16 false rfl rfl rfl rfl rfl (y_move rfl rfl) ?_
      refine hl_yg 3 16 false rfl rfl rfl rfl rfl (y_lenE (tl.length) rfl rfl S22 rfl (rdF ht) (by first | rfl | (simp only [ls_len, ns_len, List.length_append, List.length_take, List.length_drop, List.length_replicate, List.length_cons, List.length_nil, putL_len, shaL_len, overL_len, macKey_len, hmacL_len, tgL_len, outN_len, expN_len, infoL_len, derL_len]; done) | (simp only [ls_len, ns_len, List.length_append, List.length_take, List.length_drop, List.length_replicate, List.length_cons, List.length_nil, putL_len, shaL_len, overL_len, macKey_len, hmacL_len, tgL_len, outN_len, expN_len, infoL_len, derL_len]; omega))) ?_
      refine hl_yg 3 16 false rfl rfl rfl rfl rfl (y_as (y_gtrn (q := 200) rfl rfl rfl ) (congrArg Value.bool (decide_eq_true (by omega)))) ?_
      refine hl_y rfl rfl rfl (y_pick (b := false) rfl rfl rfl) ?_
      refine hl_y rfl rfl rfl (y_move rfl rfl) ?_
      refine hl_no 8 21 false true rfl rfl rfl rfl rfl rfl ?_
      refine hl_no 8 21 false true rfl rfl rfl rfl rfl rfl ?_
      refine hl_no 8 21 false true rfl rfl rfl rfl rfl rfl ?_
      refine hl_y rfl rfl rfl (y_pick (b := true) rfl rfl rfl) ?_
      refine hl_y rfl rfl rfl (y_move rfl rfl) ?_
      refine hl_no 13 26 false true rfl rfl rfl rfl rfl rfl ?_
      refine hl_no 13 26 false true rfl rfl rfl rfl rfl rfl ?_
      refine hl_no 13 26 false true rfl rfl rfl rfl rfl rfl ?_
      refine hl_nou 16 29 true rfl rfl rfl rfl rfl ?_
      refine hl_nou 16 29 true rfl rfl rfl rfl rfl ?_
      refine hl_no 13 26 false true rfl rfl rfl rfl rfl rfl ?_
      refine hl_y rfl rfl rfl (y_pick (b := true) rfl rfl rfl) ?_
      refine hl_nil ?_
      refine hq_then ?_
      refine hc_ifT rfl ?_
      refine hc_seq ?_
      refine hc_region ?_
      refine hl_i rfl rfl rfl (e_call0 rfl F47 rfl (fun w hw => law09_alive_ct w (hkl.below (Mm.out hw).low)) rfl) ?_; intro _
      refine hl_y rfl rfl rfl (y_assign rfl rfl) ?_
      refine hl_nil ?_
      refine hq_then ?_
      refine hc_ret ?_
      exact hq_then_ret (hq_ret1 (()) rfl (rv_tmp rfl) rfl (fun _ h => Mm.pick h [] (by simp)))
    · skip
      rcases Decidable.em (200 < il.length) with k2 | k2
      · skip
        refine hc_region ?_
        refine hl_y rfl rfl rfl (y_move rfl rfl) ?_
        refine hl_y rfl rfl rfl (y_lenE (kl.length) rfl rfl S22 rfl (rdF hk) (by first | rfl | (simp only [ls_len, ns_len, List.length_append, List.length_take, List.length_drop, List.length_replicate, List.length_cons, List.length_nil, putL_len, shaL_len, overL_len, macKey_len, hmacL_len, tgL_len, outN_len, expN_len, infoL_len, derL_len]; done) | (simp only [ls_len, ns_len, List.length_append, List.length_take, List.length_drop, List.length_replicate, List.length_cons, List.length_nil, putL_len, shaL_len, overL_len, macKey_len, hmacL_len, tgL_len, outN_len, expN_len, infoL_len, derL_len]; omega))) ?_
        refine hl_y rfl rfl rfl (y_as (y_gtrn (q := 200) rfl rfl rfl ) (congrArg Value.bool (decide_eq_false (by omega)))) ?_
        refine hl_y rfl rfl rfl (y_move rfl rfl) ?_
        refine hl_yg 3 16 false rfl rfl rfl rfl rfl (y_move rfl rfl) ?_
        refine hl_yg 3 16 false rfl rfl rfl rfl rfl (y_lenE (tl.length) rfl rfl S22 rfl (rdF ht) (by first | rfl | (simp only [ls_len, ns_len, List.length_append, List.length_take, List.length_drop, List.length_replicate, List.length_cons, List.length_nil, putL_len, shaL_len, overL_len, macKey_len, hmacL_len, tgL_len, outN_len, expN_len, infoL_len, derL_len]; done) | (simp only [ls_len, ns_len, List.length_append, List.length_take, List.length_drop, List.length_replicate, List.length_cons, List.length_nil, putL_len, shaL_len, overL_len, macKey_len, hmacL_len, tgL_len, outN_len, expN_len, infoL_len, derL_len]; omega))) ?_
        refine hl_yg 3 16 false rfl rfl rfl rfl rfl (y_as (y_gtrn (q := 200) rfl rfl rfl ) (congrArg Value.bool (decide_eq_false (by omega)))) ?_
        refine hl_y rfl rfl rfl (y_pick (b := false) rfl rfl rfl) ?_
        refine hl_y rfl rfl rfl (y_move rfl rfl) ?_
        refine hl_yg 8 21 false rfl rfl rfl rfl rfl (y_move rfl rfl) ?_
        refine hl_yg 8 21 false rfl rfl rfl rfl rfl (y_lenE (il.length) rfl rfl S22 rfl (rdF hi) (by first | rfl | (simp only [ls_len, ns_len, List.length_append, List.length_take, List.length_drop, List.length_replicate, List.length_cons, List.length_nil, putL_len, shaL_len, overL_len, macKey_len, hmacL_len, tgL_len, outN_len, expN_len, infoL_len, derL_len]; done) | (simp only [ls_len, ns_len, List.length_append, List.length_take, List.length_drop, List.length_replicate, List.length_cons, List.length_nil, putL_len, shaL_len, overL_len, macKey_len, hmacL_len, tgL_len, outN_len, expN_len, infoL_len, derL_len]; omega))) ?_
        refine hl_yg 8 21 false rfl rfl rfl rfl rfl (y_as (y_gtrn (q := 200) rfl rfl rfl ) (congrArg Value.bool (decide_eq_true (by omega)))) ?_
        refine hl_y rfl rfl rfl (y_pick (b := false) rfl rfl rfl) ?_
        refine hl_y rfl rfl rfl (y_move rfl rfl) ?_
        refine hl_no 13 26 false true rfl rfl rfl rfl rfl rfl ?_
        refine hl_no 13 26 false true rfl rfl rfl rfl rfl rfl ?_
        refine hl_no 13 26 false true rfl rfl rfl rfl rfl rfl ?_
        refine hl_nou 16 29 true rfl rfl rfl rfl rfl ?_
        refine hl_nou 16 29 true rfl rfl rfl rfl rfl ?_
        refine hl_no 13 26 false true rfl rfl rfl rfl rfl rfl ?_
        refine hl_y rfl rfl rfl (y_pick (b := true) rfl rfl rfl) ?_
        refine hl_nil ?_
        refine hq_then ?_
        refine hc_ifT rfl ?_
        refine hc_seq ?_
        refine hc_region ?_
        refine hl_i rfl rfl rfl (e_call0 rfl F47 rfl (fun w hw => law09_alive_ct w (hkl.below (Mm.out hw).low)) rfl) ?_; intro _
        refine hl_y rfl rfl rfl (y_assign rfl rfl) ?_
        refine hl_nil ?_
        refine hq_then ?_
        refine hc_ret ?_
        exact hq_then_ret (hq_ret1 (()) rfl (rv_tmp rfl) rfl (fun _ h => Mm.pick h [] (by simp)))
      · skip
        refine hc_region ?_
        refine hl_y rfl rfl rfl (y_move rfl rfl) ?_
        refine hl_y rfl rfl rfl (y_lenE (kl.length) rfl rfl S22 rfl (rdF hk) (by first | rfl | (simp only [ls_len, ns_len, List.length_append, List.length_take, List.length_drop, List.length_replicate, List.length_cons, List.length_nil, putL_len, shaL_len, overL_len, macKey_len, hmacL_len, tgL_len, outN_len, expN_len, infoL_len, derL_len]; done) | (simp only [ls_len, ns_len, List.length_append, List.length_take, List.length_drop, List.length_replicate, List.length_cons, List.length_nil, putL_len, shaL_len, overL_len, macKey_len, hmacL_len, tgL_len, outN_len, expN_len, infoL_len, derL_len]; omega))) ?_
        refine hl_y rfl rfl rfl (y_as (y_gtrn (q := 200) rfl rfl rfl ) (congrArg Value.bool (decide_eq_false (by omega)))) ?_
        refine hl_y rfl rfl rfl (y_move rfl rfl) ?_
        refine hl_yg 3 16 false rfl rfl rfl rfl rfl (y_move rfl rfl) ?_
        refine hl_yg 3 16 false rfl rfl rfl rfl rfl (y_lenE (tl.length) rfl rfl S22 rfl (rdF ht) (by first | rfl | (simp only [ls_len, ns_len, List.length_append, List.length_take, List.length_drop, List.length_replicate, List.length_cons, List.length_nil, putL_len, shaL_len, overL_len, macKey_len, hmacL_len, tgL_len, outN_len, expN_len, infoL_len, derL_len]; done) | (simp only [ls_len, ns_len, List.length_append, List.length_take, List.length_drop, List.length_replicate, List.length_cons, List.length_nil, putL_len, shaL_len, overL_len, macKey_len, hmacL_len, tgL_len, outN_len, expN_len, infoL_len, derL_len]; omega))) ?_
        refine hl_yg 3 16 false rfl rfl rfl rfl rfl (y_as (y_gtrn (q := 200) rfl rfl rfl ) (congrArg Value.bool (decide_eq_false (by omega)))) ?_
        refine hl_y rfl rfl rfl (y_pick (b := false) rfl rfl rfl) ?_
        refine hl_y rfl rfl rfl (y_move rfl rfl) ?_
        refine hl_yg 8 21 false rfl rfl rfl rfl rfl (y_move rfl rfl) ?_
        refine hl_yg 8 21 false rfl rfl rfl rfl rfl (y_lenE (il.length) rfl rfl S22 rfl (rdF hi) (by first | rfl | (simp only [ls_len, ns_len, List.length_append, List.length_take, List.length_drop, List.length_replicate, List.length_cons, List.length_nil, putL_len, shaL_len, overL_len, macKey_len, hmacL_len, tgL_len, outN_len, expN_len, infoL_len, derL_len]; done) | (simp only [ls_len, ns_len, List.length_append, List.length_take, List.length_drop, List.length_replicate, List.length_cons, List.length_nil, putL_len, shaL_len, overL_len, macKey_len, hmacL_len, tgL_len, outN_len, expN_len, infoL_len, derL_len]; omega))) ?_
        refine hl_yg 8 21 false rfl rfl rfl rfl rfl (y_as (y_gtrn (q := 200) rfl rfl rfl ) (congrArg Value.bool (decide_eq_false (by omega)))) ?_
        refine hl_y rfl rfl rfl (y_pick (b := false) rfl rfl rfl) ?_
        refine hl_y rfl rfl rfl (y_move rfl rfl) ?_
        refine hl_yg 13 26 false rfl rfl rfl rfl rfl (y_move rfl rfl) ?_
        refine hl_yg 13 26 false rfl rfl rfl rfl rfl (y_as (y_gtrn (q := 300) rfl rfl rfl ) (congrArg Value.bool (decide_eq_true (by omega)))) ?_
        refine hl_yg 13 26 false rfl rfl rfl rfl rfl (y_move rfl rfl) ?_
        refine hl_yg 16 29 true rfl rfl rfl rfl rfl (y_move rfl rfl) ?_
        refine hl_yg 16 29 true rfl rfl rfl rfl rfl (y_as (y_leqn (q := 8160) rfl rfl rfl ) (congrArg Value.bool (decide_eq_true (by omega)))) ?_
        refine hl_yg 13 26 false rfl rfl rfl rfl rfl (y_pick (b := true) rfl rfl rfl) ?_
        refine hl_y rfl rfl rfl (y_pick (b := false) rfl rfl rfl) ?_
        refine hl_nil ?_
        refine hq_then ?_
        refine hc_ifT rfl ?_
        refine hc_seq ?_
        refine hc_region ?_
        refine hl_i rfl rfl rfl (e_call0 rfl F47 rfl (fun w hw => law09_alive_ct w (hkl.below (Mm.out hw).low)) rfl) ?_; intro _
        refine hl_y rfl rfl rfl (y_assign rfl rfl) ?_
        refine hl_nil ?_
        refine hq_then ?_
        refine hc_ret ?_
        exact hq_then_ret (hq_ret1 (()) rfl (rv_tmp rfl) rfl (fun _ h => Mm.pick h [] (by simp)))

set_option maxHeartbeats 1000000 in
theorem kdfBytes_big (kl : List UInt8) (kv : Value) (tl : List UInt8) (tv : Value) (il : List UInt8) (iv : Value) (n : Nat) (h1 : 8160 < n) (h2 : n ≤ 9223372036854775807) (w : World) (hk : Rd w kv (ls vb kl)) (mk : kl.length ≤ 9223372036854775807) (ht : Rd w tv (ls vb tl)) (mt : tl.length ≤ 9223372036854775807) (hi : Rd w iv (ls vb il)) (mi : il.length ≤ 9223372036854775807) (hkl : KL w) : Ct0 Tryd.prog 12 #[kv, tv, iv, vi n] w (.bool true) := by
  refine ct0_of Tryd.func12 rfl Tryd.ntmps12 rfl ?_
  refine hc_seq ?_
  refine hc_region ?_
  refine hl_y rfl rfl rfl (y_assign rfl rfl) ?_
  refine hl_nil ?_
  refine hq_then ?_
  refine hc_seq ?_
  refine hc_seq ?_
  rcases Decidable.em (200 < kl.length) with k0 | k0
  · skip
    refine hc_region ?_
    refine hl_y rfl rfl rfl (y_move rfl rfl) ?_
    refine hl_y rfl rfl rfl (y_lenE (kl.length) rfl rfl S22 rfl (rdF hk) (by first | rfl | (simp only [ls_len, ns_len, List.length_append, List.length_take, List.length_drop, List.length_replicate, List.length_cons, List.length_nil, putL_len, shaL_len, overL_len, macKey_len, hmacL_len, tgL_len, outN_len, expN_len, infoL_len, derL_len]; done) | (simp only [ls_len, ns_len, List.length_append, List.length_take, List.length_drop, List.length_replicate, List.length_cons, List.length_nil, putL_len, shaL_len, overL_len, macKey_len, hmacL_len, tgL_len, outN_len, expN_len, infoL_len, derL_len]; omega))) ?_
    refine hl_y rfl rfl rfl (y_as (y_gtrn (q := 200) rfl rfl rfl ) (congrArg Value.bool (decide_eq_true (by omega)))) ?_
    refine hl_y rfl rfl rfl (y_move rfl rfl) ?_
    refine hl_no 3 16 false true rfl rfl rfl rfl rfl rfl ?_
    refine hl_no 3 16 false true rfl rfl rfl rfl rfl rfl ?_
    refine hl_no 3 16 false true rfl rfl rfl rfl rfl rfl ?_
    refine hl_y rfl rfl rfl (y_pick (b := true) rfl rfl rfl) ?_
    refine hl_y rfl rfl rfl (y_move rfl rfl) ?_
    refine hl_no 8 21 false true rfl rfl rfl rfl rfl rfl ?_
    refine hl_no 8 21 false true rfl rfl rfl rfl rfl rfl ?_
    refine hl_no 8 21 false true rfl rfl rfl rfl rfl rfl ?_
    refine hl_y rfl rfl rfl (y_pick (b := true) rfl rfl rfl) ?_
    refine hl_y rfl rfl rfl (y_move rfl rfl) ?_
    refine hl_no 13 26 false true rfl rfl rfl rfl rfl rfl ?_
    refine hl_no 13 26 false true rfl rfl rfl rfl rfl rfl ?_
    refine hl_no 13 26 false true rfl rfl rfl rfl rfl rfl ?_
    refine hl_nou 16 29 true rfl rfl rfl rfl rfl ?_
    refine hl_nou 16 29 true rfl rfl rfl rfl rfl ?_
    refine hl_no 13 26 false true rfl rfl rfl rfl rfl rfl ?_
    refine hl_y rfl rfl rfl (y_pick (b := true) rfl rfl rfl) ?_
    refine hl_nil ?_
    refine hq_then ?_
    refine hc_ifT rfl ?_
    refine hc_seq ?_
    refine hc_region ?_
    refine hl_i rfl rfl rfl (e_call0 rfl F47 rfl (fun w hw => law09_alive_ct w (hkl.below (Mm.out hw).low)) rfl) ?_; intro _
    refine hl_y rfl rfl rfl (y_assign rfl rfl) ?_
    refine hl_nil ?_
    refine hq_then ?_
    refine hc_ret ?_
    exact hq_then_ret (hq_ret1 (()) rfl (rv_tmp rfl) rfl (fun _ h => Mm.pick h [] (by simp)))
  · skip
    rcases Decidable.em (200 < tl.length) with k1 | k1
    · skip
      refine hc_region ?_
      refine hl_y rfl rfl rfl (y_move rfl rfl) ?_
      refine hl_y rfl rfl rfl (y_lenE (kl.length) rfl rfl S22 rfl (rdF hk) (by first | rfl | (simp only [ls_len, ns_len, List.length_append, List.length_take, List.length_drop, List.length_replicate, List.length_cons, List.length_nil, putL_len, shaL_len, overL_len, macKey_len, hmacL_len, tgL_len, outN_len, expN_len, infoL_len, derL_len]; done) | (simp only [ls_len, ns_len, List.length_append, List.length_take, List.length_drop, List.length_replicate, List.length_cons, List.length_nil, putL_len, shaL_len, overL_len, macKey_len, hmacL_len, tgL_len, outN_len, expN_len, infoL_len, derL_len]; omega))) ?_
      refine hl_y rfl rfl rfl (y_as (y_gtrn (q := 200) rfl rfl rfl ) (congrArg Value.bool (decide_eq_false (by omega)))) ?_
      refine hl_y rfl rfl rfl (y_move rfl rfl) ?_
      refine hl_yg 3 16 false rfl rfl rfl rfl rfl (y_move rfl rfl) ?_
      refine hl_yg 3 16 false rfl rfl rfl rfl rfl (y_lenE (tl.length) rfl rfl S22 rfl (rdF ht) (by first | rfl | (simp only [ls_len, ns_len, List.length_append, List.length_take, List.length_drop, List.length_replicate, List.length_cons, List.length_nil, putL_len, shaL_len, overL_len, macKey_len, hmacL_len, tgL_len, outN_len, expN_len, infoL_len, derL_len]; done) | (simp only [ls_len, ns_len, List.length_append, List.length_take, List.length_drop, List.length_replicate, List.length_cons, List.length_nil, putL_len, shaL_len, overL_len, macKey_len, hmacL_len, tgL_len, outN_len, expN_len, infoL_len, derL_len]; omega))) ?_
      refine hl_yg 3 16 false rfl rfl rfl rfl rfl (y_as (y_gtrn (q := 200) rfl rfl rfl ) (congrArg Value.bool (decide_eq_true (by omega)))) ?_
      refine hl_y rfl rfl rfl (y_pick (b := false) rfl rfl rfl) ?_
      refine hl_y rfl rfl rfl (y_move rfl rfl) ?_
      refine hl_no 8 21 false true rfl rfl rfl rfl rfl rfl ?_
      refine hl_no 8 21 false true rfl rfl rfl rfl rfl rfl ?_
      refine hl_no 8 21 false true rfl rfl rfl rfl rfl rfl ?_
      refine hl_y rfl rfl rfl (y_pick (b := true) rfl rfl rfl) ?_
      refine hl_y rfl rfl rfl (y_move rfl rfl) ?_
      refine hl_no 13 26 false true rfl rfl rfl rfl rfl rfl ?_
      refine hl_no 13 26 false true rfl rfl rfl rfl rfl rfl ?_
      refine hl_no 13 26 false true rfl rfl rfl rfl rfl rfl ?_
      refine hl_nou 16 29 true rfl rfl rfl rfl rfl ?_
      refine hl_nou 16 29 true rfl rfl rfl rfl rfl ?_
      refine hl_no 13 26 false true rfl rfl rfl rfl rfl rfl ?_
      refine hl_y rfl rfl rfl (y_pick (b := true) rfl rfl rfl) ?_
      refine hl_nil ?_
      refine hq_then ?_
      refine hc_ifT rfl ?_
      refine hc_seq ?_
      refine hc_region ?_
      refine hl_i rfl rfl rfl (e_call0 rfl F47 rfl (fun w hw => law09_alive_ct w (hkl.below (Mm.out hw).low)) rfl) ?_; intro _
      refine hl_y rfl rfl rfl (y_assign rfl rfl) ?_
      refine hl_nil ?_
      refine hq_then ?_
      refine hc_ret ?_
      exact hq_then_ret (hq_ret1 (()) rfl (rv_tmp rfl) rfl (fun _ h => Mm.pick h [] (by simp)))
    · skip
      rcases Decidable.em (200 < il.length) with k2 | k2
      · skip
        refine hc_region ?_
        refine hl_y rfl rfl rfl (y_move rfl rfl) ?_
        refine hl_y rfl rfl rfl (y_lenE (kl.length) rfl rfl S22 rfl (rdF hk) (by first | rfl | (simp only [ls_len, ns_len, List.length_append, List.length_take, List.length_drop, List.length_replicate, List.length_cons, List.length_nil, putL_len, shaL_len, overL_len, macKey_len, hmacL_len, tgL_len, outN_len, expN_len, infoL_len, derL_len]; done) | (simp only [ls_len, ns_len, List.length_append, List.length_take, List.length_drop, List.length_replicate, List.length_cons, List.length_nil, putL_len, shaL_len, overL_len, macKey_len, hmacL_len, tgL_len, outN_len, expN_len, infoL_len, derL_len]; omega))) ?_
        refine hl_y rfl rfl rfl (y_as (y_gtrn (q := 200) rfl rfl rfl ) (congrArg Value.bool (decide_eq_false (by omega)))) ?_
        refine hl_y rfl rfl rfl (y_move rfl rfl) ?_
        refine hl_yg 3 16 false rfl rfl rfl rfl rfl (y_move rfl rfl) ?_
        refine hl_yg 3 16 false rfl rfl rfl rfl rfl (y_lenE (tl.length) rfl rfl S22 rfl (rdF ht) (by first | rfl | (simp only [ls_len, ns_len, List.length_append, List.length_take, List.length_drop, List.length_replicate, List.length_cons, List.length_nil, putL_len, shaL_len, overL_len, macKey_len, hmacL_len, tgL_len, outN_len, expN_len, infoL_len, derL_len]; done) | (simp only [ls_len, ns_len, List.length_append, List.length_take, List.length_drop, List.length_replicate, List.length_cons, List.length_nil, putL_len, shaL_len, overL_len, macKey_len, hmacL_len, tgL_len, outN_len, expN_len, infoL_len, derL_len]; omega))) ?_
        refine hl_yg 3 16 false rfl rfl rfl rfl rfl (y_as (y_gtrn (q := 200) rfl rfl rfl ) (congrArg Value.bool (decide_eq_false (by omega)))) ?_
        refine hl_y rfl rfl rfl (y_pick (b := false) rfl rfl rfl) ?_
        refine hl_y rfl rfl rfl (y_move rfl rfl) ?_
        refine hl_yg 8 21 false rfl rfl rfl rfl rfl (y_move rfl rfl) ?_
        refine hl_yg 8 21 false rfl rfl rfl rfl rfl (y_lenE (il.length) rfl rfl S22 rfl (rdF hi) (by first | rfl | (simp only [ls_len, ns_len, List.length_append, List.length_take, List.length_drop, List.length_replicate, List.length_cons, List.length_nil, putL_len, shaL_len, overL_len, macKey_len, hmacL_len, tgL_len, outN_len, expN_len, infoL_len, derL_len]; done) | (simp only [ls_len, ns_len, List.length_append, List.length_take, List.length_drop, List.length_replicate, List.length_cons, List.length_nil, putL_len, shaL_len, overL_len, macKey_len, hmacL_len, tgL_len, outN_len, expN_len, infoL_len, derL_len]; omega))) ?_
        refine hl_yg 8 21 false rfl rfl rfl rfl rfl (y_as (y_gtrn (q := 200) rfl rfl rfl ) (congrArg Value.bool (decide_eq_true (by omega)))) ?_
        refine hl_y rfl rfl rfl (y_pick (b := false) rfl rfl rfl) ?_
        refine hl_y rfl rfl rfl (y_move rfl rfl) ?_
        refine hl_no 13 26 false true rfl rfl rfl rfl rfl rfl ?_
        refine hl_no 13 26 false true rfl rfl rfl rfl rfl rfl ?_
        refine hl_no 13 26 false true rfl rfl rfl rfl rfl rfl ?_
        refine hl_nou 16 29 true rfl rfl rfl rfl rfl ?_
        refine hl_nou 16 29 true rfl rfl rfl rfl rfl ?_
        refine hl_no 13 26 false true rfl rfl rfl rfl rfl rfl ?_
        refine hl_y rfl rfl rfl (y_pick (b := true) rfl rfl rfl) ?_
        refine hl_nil ?_
        refine hq_then ?_
        refine hc_ifT rfl ?_
        refine hc_seq ?_
        refine hc_region ?_
        refine hl_i rfl rfl rfl (e_call0 rfl F47 rfl (fun w hw => law09_alive_ct w (hkl.below (Mm.out hw).low)) rfl) ?_; intro _
        refine hl_y rfl rfl rfl (y_assign rfl rfl) ?_
        refine hl_nil ?_
        refine hq_then ?_
        refine hc_ret ?_
        exact hq_then_ret (hq_ret1 (()) rfl (rv_tmp rfl) rfl (fun _ h => Mm.pick h [] (by simp)))
      · skip
        refine hc_region ?_
        refine hl_y rfl rfl rfl (y_move rfl rfl) ?_
        refine hl_y rfl rfl rfl (y_lenE (kl.length) rfl rfl S22 rfl (rdF hk) (by first | rfl | (simp only [ls_len, ns_len, List.length_append, List.length_take, List.length_drop, List.length_replicate, List.length_cons, List.length_nil, putL_len, shaL_len, overL_len, macKey_len, hmacL_len, tgL_len, outN_len, expN_len, infoL_len, derL_len]; done) | (simp only [ls_len, ns_len, List.length_append, List.length_take, List.length_drop, List.length_replicate, List.length_cons, List.length_nil, putL_len, shaL_len, overL_len, macKey_len, hmacL_len, tgL_len, outN_len, expN_len, infoL_len, derL_len]; omega))) ?_
        refine hl_y rfl rfl rfl (y_as (y_gtrn (q := 200) rfl rfl rfl ) (congrArg Value.bool (decide_eq_false (by omega)))) ?_
        refine hl_y rfl rfl rfl (y_move rfl rfl) ?_
        refine hl_yg 3 16 false rfl rfl rfl rfl rfl (y_move rfl rfl) ?_
        refine hl_yg 3 16 false rfl rfl rfl rfl rfl (y_lenE (tl.length) rfl rfl S22 rfl (rdF ht) (by first | rfl | (simp only [ls_len, ns_len, List.length_append, List.length_take, List.length_drop, List.length_replicate, List.length_cons, List.length_nil, putL_len, shaL_len, overL_len, macKey_len, hmacL_len, tgL_len, outN_len, expN_len, infoL_len, derL_len]; done) | (simp only [ls_len, ns_len, List.length_append, List.length_take, List.length_drop, List.length_replicate, List.length_cons, List.length_nil, putL_len, shaL_len, overL_len, macKey_len, hmacL_len, tgL_len, outN_len, expN_len, infoL_len, derL_len]; omega))) ?_
        refine hl_yg 3 16 false rfl rfl rfl rfl rfl (y_as (y_gtrn (q := 200) rfl rfl rfl ) (congrArg Value.bool (decide_eq_false (by omega)))) ?_
        refine hl_y rfl rfl rfl (y_pick (b := false) rfl rfl rfl) ?_
        refine hl_y rfl rfl rfl (y_move rfl rfl) ?_
        refine hl_yg 8 21 false rfl rfl rfl rfl rfl (y_move rfl rfl) ?_
        refine hl_yg 8 21 false rfl rfl rfl rfl rfl (y_lenE (il.length) rfl rfl S22 rfl (rdF hi) (by first | rfl | (simp only [ls_len, ns_len, List.length_append, List.length_take, List.length_drop, List.length_replicate, List.length_cons, List.length_nil, putL_len, shaL_len, overL_len, macKey_len, hmacL_len, tgL_len, outN_len, expN_len, infoL_len, derL_len]; done) | (simp only [ls_len, ns_len, List.length_append, List.length_take, List.length_drop, List.length_replicate, List.length_cons, List.length_nil, putL_len, shaL_len, overL_len, macKey_len, hmacL_len, tgL_len, outN_len, expN_len, infoL_len, derL_len]; omega))) ?_
        refine hl_yg 8 21 false rfl rfl rfl rfl rfl (y_as (y_gtrn (q := 200) rfl rfl rfl ) (congrArg Value.bool (decide_eq_false (by omega)))) ?_
        refine hl_y rfl rfl rfl (y_pick (b := false) rfl rfl rfl) ?_
        refine hl_y rfl rfl rfl (y_move rfl rfl) ?_
        refine hl_yg 13 26 false rfl rfl rfl rfl rfl (y_move rfl rfl) ?_
        refine hl_yg 13 26 false rfl rfl rfl rfl rfl (y_as (y_gtrn (q := 300) rfl rfl rfl ) (congrArg Value.bool (decide_eq_true (by omega)))) ?_
        refine hl_yg 13 26 false rfl rfl rfl rfl rfl (y_move rfl rfl) ?_
        refine hl_yg 16 29 true rfl rfl rfl rfl rfl (y_move rfl rfl) ?_
        refine hl_yg 16 29 true rfl rfl rfl rfl rfl (y_as (y_leqn (q := 8160) rfl rfl rfl ) (congrArg Value.bool (decide_eq_false (by omega)))) ?_
        refine hl_yg 13 26 false rfl rfl rfl rfl rfl (y_pick (b := true) rfl rfl rfl) ?_
        refine hl_y rfl rfl rfl (y_pick (b := false) rfl rfl rfl) ?_
        refine hl_nil ?_
        refine hq_then ?_
        refine hc_ifF rfl ?_
        refine hc_skip ?_
        refine hq_then ?_
        refine hc_seq ?_
        refine hc_region ?_
        refine hl_y rfl rfl rfl (y_move rfl rfl) ?_
        refine hl_y rfl rfl rfl (y_move rfl rfl) ?_
        refine hl_y rfl rfl rfl (y_move rfl rfl) ?_
        refine hl_i rfl rfl rfl (e_call0 rfl F48 rfl (fun w hw => kdf_Expand_big tl _ il _ _ (by omega) (by omega) w ((rdF ht) w hw) (by first | omega | (simp only [List.length_append, List.length_take, List.length_drop, List.length_replicate, List.length_cons, List.length_nil, putL_len, shaL_len, overL_len, macKey_len, hmacL_len, tgL_len, outN_len, expN_len, infoL_len, derL_len]; omega) | (simp only [List.length_append, List.length_take, List.length_drop, List.length_replicate, List.length_cons, List.length_nil, putL_len, shaL_len, overL_len, macKey_len, hmacL_len, tgL_len, outN_len, expN_len, infoL_len, derL_len] at *; omega)) ((rdF hi) w hw) (by first | omega | (simp only [List.length_append, List.length_take, List.length_drop, List.length_replicate, List.length_cons, List.length_nil, putL_len, shaL_len, overL_len, macKey_len, hmacL_len, tgL_len, outN_len, expN_len, infoL_len, derL_len]; omega) | (simp only [List.length_append, List.length_take, List.length_drop, List.length_replicate, List.length_cons, List.length_nil, putL_len, shaL_len, overL_len, macKey_len, hmacL_len, tgL_len, outN_len, expN_len, infoL_len, derL_len] at *; omega))) rfl) ?_; intro _
        refine hl_y rfl rfl rfl (y_move rfl rfl) ?_
        refine hl_y rfl rfl rfl (y_extract rfl rfl rfl) ?_
        refine hl_y rfl rfl rfl (y_extract rfl rfl rfl) ?_
        refine hl_y rfl rfl rfl (y_assign rfl rfl) ?_
        refine hl_y rfl rfl rfl (y_assign rfl rfl) ?_
        refine hl_nil ?_
        refine hq_then ?_
        refine hc_seq ?_
        refine hc_region ?_
        refine hl_y rfl rfl rfl (y_move rfl rfl) ?_
        refine hl_y rfl rfl rfl (y_move rfl rfl) ?_
        refine hl_y rfl rfl rfl (y_move rfl rfl) ?_
        refine hl_i rfl rfl rfl (e_call0 rfl F49 rfl (fun w hw => r09_Expand_big tl _ il _ _ (by omega) (by omega) w ((rdF ht) w hw) (by first | omega | (simp only [List.length_append, List.length_take, List.length_drop, List.length_replicate, List.length_cons, List.length_nil, putL_len, shaL_len, overL_len, macKey_len, hmacL_len, tgL_len, outN_len, expN_len, infoL_len, derL_len]; omega) | (simp only [List.length_append, List.length_take, List.length_drop, List.length_replicate, List.length_cons, List.length_nil, putL_len, shaL_len, overL_len, macKey_len, hmacL_len, tgL_len, outN_len, expN_len, infoL_len, derL_len] at *; omega)) ((rdF hi) w hw) (by first | omega | (simp only [List.length_append, List.length_take, List.length_drop, List.length_replicate, List.length_cons, List.length_nil, putL_len, shaL_len, overL_len, macKey_len, hmacL_len, tgL_len, outN_len, expN_len, infoL_len, derL_len]; omega) | (simp only [List.length_append, List.length_take, List.length_drop, List.length_replicate, List.length_cons, List.length_nil, putL_len, shaL_len, overL_len, macKey_len, hmacL_len, tgL_len, outN_len, expN_len, infoL_len, derL_len] at *; omega))) rfl) ?_; intro _
        refine hl_y rfl rfl rfl (y_move rfl rfl) ?_
        refine hl_y rfl rfl rfl (y_extract rfl rfl rfl) ?_
        refine hl_y rfl rfl rfl (y_extract rfl rfl rfl) ?_
        refine hl_y rfl rfl rfl (y_assign rfl rfl) ?_
        refine hl_y rfl rfl rfl (y_assign rfl rfl) ?_
        refine hl_nil ?_
        refine hq_then ?_
        refine hc_seq ?_
        refine hc_region ?_
        refine hl_y rfl rfl rfl (y_move rfl rfl) ?_
        refine hl_y rfl rfl rfl (y_move rfl rfl) ?_
        refine hl_i rfl rfl rfl (e_call rfl F50 rfl (fun w hw => kdf_Extract_ct kl _ tl _ w ((rdF hk) w hw) (by first | omega | (simp only [List.length_append, List.length_take, List.length_drop, List.length_replicate, List.length_cons, List.length_nil, putL_len, shaL_len, overL_len, macKey_len, hmacL_len, tgL_len, outN_len, expN_len, infoL_len, derL_len]; omega) | (simp only [List.length_append, List.length_take, List.length_drop, List.length_replicate, List.length_cons, List.length_nil, putL_len, shaL_len, overL_len, macKey_len, hmacL_len, tgL_len, outN_len, expN_len, infoL_len, derL_len] at *; omega)) ((rdF ht) w hw) (by first | omega | (simp only [List.length_append, List.length_take, List.length_drop, List.length_replicate, List.length_cons, List.length_nil, putL_len, shaL_len, overL_len, macKey_len, hmacL_len, tgL_len, outN_len, expN_len, infoL_len, derL_len]; omega) | (simp only [List.length_append, List.length_take, List.length_drop, List.length_replicate, List.length_cons, List.length_nil, putL_len, shaL_len, overL_len, macKey_len, hmacL_len, tgL_len, outN_len, expN_len, infoL_len, derL_len] at *; omega)) (hkl.below (Mm.out hw).low)) rfl) ?_; intro y51
        refine hl_y rfl rfl rfl (y_move rfl rfl) ?_
        refine hl_y rfl rfl rfl (y_move rfl rfl) ?_
        refine hl_i rfl rfl rfl (e_call rfl F42 rfl (fun w hw => r08_Of_ct kl _ tl _ w ((rdF hk) w hw) (by first | omega | (simp only [List.length_append, List.length_take, List.length_drop, List.length_replicate, List.length_cons, List.length_nil, putL_len, shaL_len, overL_len, macKey_len, hmacL_len, tgL_len, outN_len, expN_len, infoL_len, derL_len]; omega) | (simp only [List.length_append, List.length_take, List.length_drop, List.length_replicate, List.length_cons, List.length_nil, putL_len, shaL_len, overL_len, macKey_len, hmacL_len, tgL_len, outN_len, expN_len, infoL_len, derL_len] at *; omega)) ((rdF ht) w hw) (by first | omega | (simp only [List.length_append, List.length_take, List.length_drop, List.length_replicate, List.length_cons, List.length_nil, putL_len, shaL_len, overL_len, macKey_len, hmacL_len, tgL_len, outN_len, expN_len, infoL_len, derL_len]; omega) | (simp only [List.length_append, List.length_take, List.length_drop, List.length_replicate, List.length_cons, List.length_nil, putL_len, shaL_len, overL_len, macKey_len, hmacL_len, tgL_len, outN_len, expN_len, infoL_len, derL_len] at *; omega))) rfl) ?_; intro y54
        refine hl_i rfl rfl rfl (e_call0 rfl F19 rfl (fun w hw => r01_Same_t _ _ _ _ w ((rdR 1 rfl) w hw) ((rdR 0 rfl) w hw) (by first | omega | (simp only [List.length_append, List.length_take, List.length_drop, List.length_replicate, List.length_cons, List.length_nil, putL_len, shaL_len, overL_len, macKey_len, hmacL_len, tgL_len, outN_len, expN_len, infoL_len, derL_len]; omega) | (simp only [List.length_append, List.length_take, List.length_drop, List.length_replicate, List.length_cons, List.length_nil, putL_len, shaL_len, overL_len, macKey_len, hmacL_len, tgL_len, outN_len, expN_len, infoL_len, derL_len] at *; omega)) (rfl)) rfl) ?_; intro _
        refine hl_y rfl rfl rfl (y_move rfl rfl) ?_
        refine hl_yg 7 56 true rfl rfl rfl rfl rfl (y_move rfl rfl) ?_
        refine hl_yg 7 56 true rfl rfl rfl rfl rfl (y_move rfl rfl) ?_
        refine hl_ig 7 56 true rfl rfl rfl rfl rfl (e_call0 rfl F19 rfl (fun w hw => r01_Same_t _ _ _ _ w (rd_nilb w hw) (rd_nilb w hw) (by first | omega | (simp only [List.length_append, List.length_take, List.length_drop, List.length_replicate, List.length_cons, List.length_nil, putL_len, shaL_len, overL_len, macKey_len, hmacL_len, tgL_len, outN_len, expN_len, infoL_len, derL_len]; omega) | (simp only [List.length_append, List.length_take, List.length_drop, List.length_replicate, List.length_cons, List.length_nil, putL_len, shaL_len, overL_len, macKey_len, hmacL_len, tgL_len, outN_len, expN_len, infoL_len, derL_len] at *; omega)) (rfl)) rfl) ?_; intro _
        refine hl_y rfl rfl rfl (y_pick (b := true) rfl rfl rfl) ?_
        refine hl_y rfl rfl rfl (y_move rfl rfl) ?_
        refine hl_yg 12 61 true rfl rfl rfl rfl rfl (y_move rfl rfl) ?_
        refine hl_yg 12 61 true rfl rfl rfl rfl rfl (y_move rfl rfl) ?_
        refine hl_yg 12 61 true rfl rfl rfl rfl rfl (y_as (y_eqln rfl rfl rfl ) (congrArg Value.bool (decide_eq_true (by omega)))) ?_
        refine hl_y rfl rfl rfl (y_pick (b := true) rfl rfl rfl) ?_
        refine hl_y rfl rfl rfl (y_move rfl rfl) ?_
        refine hl_ig 17 66 true rfl rfl rfl rfl rfl (e_call0 rfl F47 rfl (fun w hw => law09_alive_ct w (hkl.below (Mm.out hw).low)) rfl) ?_; intro _
        refine hl_y rfl rfl rfl (y_pick (b := true) rfl rfl rfl) ?_
        refine hl_y rfl rfl rfl (y_assign rfl rfl) ?_
        refine hl_nil ?_
        refine hq_then ?_
        refine hc_ret ?_
        exact hq_ret1 (()) rfl (rv_tmp rfl) rfl (fun _ h => Mm.pick h [] (by simp))

set_option maxHeartbeats 1000000 in
theorem kdfBytes_neg (kl : List UInt8) (kv : Value) (tl : List UInt8) (tv : Value) (il : List UInt8) (iv : Value) (n : Int) (h1 : -9223372036854775808 ≤ n) (h2 : n < 1) (w : World) (hk : Rd w kv (ls vb kl)) (mk : kl.length ≤ 9223372036854775807) (ht : Rd w tv (ls vb tl)) (mt : tl.length ≤ 9223372036854775807) (hi : Rd w iv (ls vb il)) (mi : il.length ≤ 9223372036854775807) (hkl : KL w) : Ct0 Tryd.prog 12 #[kv, tv, iv, .int .i64 n] w (.bool true) := by
  refine ct0_of Tryd.func12 rfl Tryd.ntmps12 rfl ?_
  refine hc_seq ?_
  refine hc_region ?_
  refine hl_y rfl rfl rfl (y_assign rfl rfl) ?_
  refine hl_nil ?_
  refine hq_then ?_
  refine hc_seq ?_
  refine hc_seq ?_
  rcases Decidable.em (200 < kl.length) with k0 | k0
  · skip
    refine hc_region ?_
    refine hl_y rfl rfl rfl (y_move rfl rfl) ?_
    refine hl_y rfl rfl rfl (y_lenE (kl.length) rfl rfl S22 rfl (rdF hk) (by first | rfl | (simp only [ls_len, ns_len, List.length_append, List.length_take, List.length_drop, List.length_replicate, List.length_cons, List.length_nil, putL_len, shaL_len, overL_len, macKey_len, hmacL_len, tgL_len, outN_len, expN_len, infoL_len, derL_len]; done) | (simp only [ls_len, ns_len, List.length_append, List.length_take, List.length_drop, List.length_replicate, List.length_cons, List.length_nil, putL_len, shaL_len, overL_len, macKey_len, hmacL_len, tgL_len, outN_len, expN_len, infoL_len, derL_len]; omega))) ?_
    refine hl_y rfl rfl rfl (y_as (y_gtrn (q := 200) rfl rfl rfl ) (congrArg Value.bool (decide_eq_true (by omega)))) ?_
    refine hl_y rfl rfl rfl (y_move rfl rfl) ?_
    refine hl_no 3 16 false true rfl rfl rfl rfl rfl rfl ?_
    refine hl_no 3 16 false true rfl rfl rfl rfl rfl rfl ?_
    refine hl_no 3 16 false true rfl rfl rfl rfl rfl rfl ?_
    refine hl_y rfl rfl rfl (y_pick (b := true) rfl rfl rfl) ?_
    refine hl_y rfl rfl rfl (y_move rfl rfl) ?_
    refine hl_no 8 21 false true rfl rfl rfl rfl rfl rfl ?_
    refine hl_no 8 21 false true rfl rfl rfl rfl rfl rfl ?_
    refine hl_no 8 21 false true rfl rfl rfl rfl rfl rfl ?_
    refine hl_y rfl rfl rfl (y_pick (b := true) rfl rfl rfl) ?_
    refine hl_y rfl rfl rfl (y_move rfl rfl) ?_
    refine hl_no 13 26 false true rfl rfl rfl rfl rfl rfl ?_
    refine hl_no 13 26 false true rfl rfl rfl rfl rfl rfl ?_
    refine hl_no 13 26 false true rfl rfl rfl rfl rfl rfl ?_
    refine hl_nou 16 29 true rfl rfl rfl rfl rfl ?_
    refine hl_nou 16 29 true rfl rfl rfl rfl rfl ?_
    refine hl_no 13 26 false true rfl rfl rfl rfl rfl rfl ?_
    refine hl_y rfl rfl rfl (y_pick (b := true) rfl rfl rfl) ?_
    refine hl_nil ?_
    refine hq_then ?_
    refine hc_ifT rfl ?_
    refine hc_seq ?_
    refine hc_region ?_
    refine hl_i rfl rfl rfl (e_call0 rfl F47 rfl (fun w hw => law09_alive_ct w (hkl.below (Mm.out hw).low)) rfl) ?_; intro _
    refine hl_y rfl rfl rfl (y_assign rfl rfl) ?_
    refine hl_nil ?_
    refine hq_then ?_
    refine hc_ret ?_
    exact hq_then_ret (hq_ret1 (()) rfl (rv_tmp rfl) rfl (fun _ h => Mm.pick h [] (by simp)))
  · skip
    rcases Decidable.em (200 < tl.length) with k1 | k1
    · skip
      refine hc_region ?_
      refine hl_y rfl rfl rfl (y_move rfl rfl) ?_
      refine hl_y rfl rfl rfl (y_lenE (kl.length) rfl rfl S22 rfl (rdF hk) (by first | rfl | (simp only [ls_len, ns_len, List.length_append, List.length_take, List.length_drop, List.length_replicate, List.length_cons, List.length_nil, putL_len, shaL_len, overL_len, macKey_len, hmacL_len, tgL_len, outN_len, expN_len, infoL_len, derL_len]; done) | (simp only [ls_len, ns_len, List.length_append, List.length_take, List.length_drop, List.length_replicate, List.length_cons, List.length_nil, putL_len, shaL_len, overL_len, macKey_len, hmacL_len, tgL_len, outN_len, expN_len, infoL_len, derL_len]; omega))) ?_
      refine hl_y rfl rfl rfl (y_as (y_gtrn (q := 200) rfl rfl rfl ) (congrArg Value.bool (decide_eq_false (by omega)))) ?_
      refine hl_y rfl rfl rfl (y_move rfl rfl) ?_
      refine hl_yg 3 16 false rfl rfl rfl rfl rfl (y_move rfl rfl) ?_
      refine hl_yg 3 16 false rfl rfl rfl rfl rfl (y_lenE (tl.length) rfl rfl S22 rfl (rdF ht) (by first | rfl | (simp only [ls_len, ns_len, List.length_append, List.length_take, List.length_drop, List.length_replicate, List.length_cons, List.length_nil, putL_len, shaL_len, overL_len, macKey_len, hmacL_len, tgL_len, outN_len, expN_len, infoL_len, derL_len]; done) | (simp only [ls_len, ns_len, List.length_append, List.length_take, List.length_drop, List.length_replicate, List.length_cons, List.length_nil, putL_len, shaL_len, overL_len, macKey_len, hmacL_len, tgL_len, outN_len, expN_len, infoL_len, derL_len]; omega))) ?_
      refine hl_yg 3 16 false rfl rfl rfl rfl rfl (y_as (y_gtrn (q := 200) rfl rfl rfl ) (congrArg Value.bool (decide_eq_true (by omega)))) ?_
      refine hl_y rfl rfl rfl (y_pick (b := false) rfl rfl rfl) ?_
      refine hl_y rfl rfl rfl (y_move rfl rfl) ?_
      refine hl_no 8 21 false true rfl rfl rfl rfl rfl rfl ?_
      refine hl_no 8 21 false true rfl rfl rfl rfl rfl rfl ?_
      refine hl_no 8 21 false true rfl rfl rfl rfl rfl rfl ?_
      refine hl_y rfl rfl rfl (y_pick (b := true) rfl rfl rfl) ?_
      refine hl_y rfl rfl rfl (y_move rfl rfl) ?_
      refine hl_no 13 26 false true rfl rfl rfl rfl rfl rfl ?_
      refine hl_no 13 26 false true rfl rfl rfl rfl rfl rfl ?_
      refine hl_no 13 26 false true rfl rfl rfl rfl rfl rfl ?_
      refine hl_nou 16 29 true rfl rfl rfl rfl rfl ?_
      refine hl_nou 16 29 true rfl rfl rfl rfl rfl ?_
      refine hl_no 13 26 false true rfl rfl rfl rfl rfl rfl ?_
      refine hl_y rfl rfl rfl (y_pick (b := true) rfl rfl rfl) ?_
      refine hl_nil ?_
      refine hq_then ?_
      refine hc_ifT rfl ?_
      refine hc_seq ?_
      refine hc_region ?_
      refine hl_i rfl rfl rfl (e_call0 rfl F47 rfl (fun w hw => law09_alive_ct w (hkl.below (Mm.out hw).low)) rfl) ?_; intro _
      refine hl_y rfl rfl rfl (y_assign rfl rfl) ?_
      refine hl_nil ?_
      refine hq_then ?_
      refine hc_ret ?_
      exact hq_then_ret (hq_ret1 (()) rfl (rv_tmp rfl) rfl (fun _ h => Mm.pick h [] (by simp)))
    · skip
      rcases Decidable.em (200 < il.length) with k2 | k2
      · skip
        refine hc_region ?_
        refine hl_y rfl rfl rfl (y_move rfl rfl) ?_
        refine hl_y rfl rfl rfl (y_lenE (kl.length) rfl rfl S22 rfl (rdF hk) (by first | rfl | (simp only [ls_len, ns_len, List.length_append, List.length_take, List.length_drop, List.length_replicate, List.length_cons, List.length_nil, putL_len, shaL_len, overL_len, macKey_len, hmacL_len, tgL_len, outN_len, expN_len, infoL_len, derL_len]; done) | (simp only [ls_len, ns_len, List.length_append, List.length_take, List.length_drop, List.length_replicate, List.length_cons, List.length_nil, putL_len, shaL_len, overL_len, macKey_len, hmacL_len, tgL_len, outN_len, expN_len, infoL_len, derL_len]; omega))) ?_
        refine hl_y rfl rfl rfl (y_as (y_gtrn (q := 200) rfl rfl rfl ) (congrArg Value.bool (decide_eq_false (by omega)))) ?_
        refine hl_y rfl rfl rfl (y_move rfl rfl) ?_
        refine hl_yg 3 16 false rfl rfl rfl rfl rfl (y_move rfl rfl) ?_
        refine hl_yg 3 16 false rfl rfl rfl rfl rfl (y_lenE (tl.length) rfl rfl S22 rfl (rdF ht) (by first | rfl | (simp only [ls_len, ns_len, List.length_append, List.length_take, List.length_drop, List.length_replicate, List.length_cons, List.length_nil, putL_len, shaL_len, overL_len, macKey_len, hmacL_len, tgL_len, outN_len, expN_len, infoL_len, derL_len]; done) | (simp only [ls_len, ns_len, List.length_append, List.length_take, List.length_drop, List.length_replicate, List.length_cons, List.length_nil, putL_len, shaL_len, overL_len, macKey_len, hmacL_len, tgL_len, outN_len, expN_len, infoL_len, derL_len]; omega))) ?_
        refine hl_yg 3 16 false rfl rfl rfl rfl rfl (y_as (y_gtrn (q := 200) rfl rfl rfl ) (congrArg Value.bool (decide_eq_false (by omega)))) ?_
        refine hl_y rfl rfl rfl (y_pick (b := false) rfl rfl rfl) ?_
        refine hl_y rfl rfl rfl (y_move rfl rfl) ?_
        refine hl_yg 8 21 false rfl rfl rfl rfl rfl (y_move rfl rfl) ?_
        refine hl_yg 8 21 false rfl rfl rfl rfl rfl (y_lenE (il.length) rfl rfl S22 rfl (rdF hi) (by first | rfl | (simp only [ls_len, ns_len, List.length_append, List.length_take, List.length_drop, List.length_replicate, List.length_cons, List.length_nil, putL_len, shaL_len, overL_len, macKey_len, hmacL_len, tgL_len, outN_len, expN_len, infoL_len, derL_len]; done) | (simp only [ls_len, ns_len, List.length_append, List.length_take, List.length_drop, List.length_replicate, List.length_cons, List.length_nil, putL_len, shaL_len, overL_len, macKey_len, hmacL_len, tgL_len, outN_len, expN_len, infoL_len, derL_len]; omega))) ?_
        refine hl_yg 8 21 false rfl rfl rfl rfl rfl (y_as (y_gtrn (q := 200) rfl rfl rfl ) (congrArg Value.bool (decide_eq_true (by omega)))) ?_
        refine hl_y rfl rfl rfl (y_pick (b := false) rfl rfl rfl) ?_
        refine hl_y rfl rfl rfl (y_move rfl rfl) ?_
        refine hl_no 13 26 false true rfl rfl rfl rfl rfl rfl ?_
        refine hl_no 13 26 false true rfl rfl rfl rfl rfl rfl ?_
        refine hl_no 13 26 false true rfl rfl rfl rfl rfl rfl ?_
        refine hl_nou 16 29 true rfl rfl rfl rfl rfl ?_
        refine hl_nou 16 29 true rfl rfl rfl rfl rfl ?_
        refine hl_no 13 26 false true rfl rfl rfl rfl rfl rfl ?_
        refine hl_y rfl rfl rfl (y_pick (b := true) rfl rfl rfl) ?_
        refine hl_nil ?_
        refine hq_then ?_
        refine hc_ifT rfl ?_
        refine hc_seq ?_
        refine hc_region ?_
        refine hl_i rfl rfl rfl (e_call0 rfl F47 rfl (fun w hw => law09_alive_ct w (hkl.below (Mm.out hw).low)) rfl) ?_; intro _
        refine hl_y rfl rfl rfl (y_assign rfl rfl) ?_
        refine hl_nil ?_
        refine hq_then ?_
        refine hc_ret ?_
        exact hq_then_ret (hq_ret1 (()) rfl (rv_tmp rfl) rfl (fun _ h => Mm.pick h [] (by simp)))
      · skip
        refine hc_region ?_
        refine hl_y rfl rfl rfl (y_move rfl rfl) ?_
        refine hl_y rfl rfl rfl (y_lenE (kl.length) rfl rfl S22 rfl (rdF hk) (by first | rfl | (simp only [ls_len, ns_len, List.length_append, List.length_take, List.length_drop, List.length_replicate, List.length_cons, List.length_nil, putL_len, shaL_len, overL_len, macKey_len, hmacL_len, tgL_len, outN_len, expN_len, infoL_len, derL_len]; done) | (simp only [ls_len, ns_len, List.length_append, List.length_take, List.length_drop, List.length_replicate, List.length_cons, List.length_nil, putL_len, shaL_len, overL_len, macKey_len, hmacL_len, tgL_len, outN_len, expN_len, infoL_len, derL_len]; omega))) ?_
        refine hl_y rfl rfl rfl (y_as (y_gtrn (q := 200) rfl rfl rfl ) (congrArg Value.bool (decide_eq_false (by omega)))) ?_
        refine hl_y rfl rfl rfl (y_move rfl rfl) ?_
        refine hl_yg 3 16 false rfl rfl rfl rfl rfl (y_move rfl rfl) ?_
        refine hl_yg 3 16 false rfl rfl rfl rfl rfl (y_lenE (tl.length) rfl rfl S22 rfl (rdF ht) (by first | rfl | (simp only [ls_len, ns_len, List.length_append, List.length_take, List.length_drop, List.length_replicate, List.length_cons, List.length_nil, putL_len, shaL_len, overL_len, macKey_len, hmacL_len, tgL_len, outN_len, expN_len, infoL_len, derL_len]; done) | (simp only [ls_len, ns_len, List.length_append, List.length_take, List.length_drop, List.length_replicate, List.length_cons, List.length_nil, putL_len, shaL_len, overL_len, macKey_len, hmacL_len, tgL_len, outN_len, expN_len, infoL_len, derL_len]; omega))) ?_
        refine hl_yg 3 16 false rfl rfl rfl rfl rfl (y_as (y_gtrn (q := 200) rfl rfl rfl ) (congrArg Value.bool (decide_eq_false (by omega)))) ?_
        refine hl_y rfl rfl rfl (y_pick (b := false) rfl rfl rfl) ?_
        refine hl_y rfl rfl rfl (y_move rfl rfl) ?_
        refine hl_yg 8 21 false rfl rfl rfl rfl rfl (y_move rfl rfl) ?_
        refine hl_yg 8 21 false rfl rfl rfl rfl rfl (y_lenE (il.length) rfl rfl S22 rfl (rdF hi) (by first | rfl | (simp only [ls_len, ns_len, List.length_append, List.length_take, List.length_drop, List.length_replicate, List.length_cons, List.length_nil, putL_len, shaL_len, overL_len, macKey_len, hmacL_len, tgL_len, outN_len, expN_len, infoL_len, derL_len]; done) | (simp only [ls_len, ns_len, List.length_append, List.length_take, List.length_drop, List.length_replicate, List.length_cons, List.length_nil, putL_len, shaL_len, overL_len, macKey_len, hmacL_len, tgL_len, outN_len, expN_len, infoL_len, derL_len]; omega))) ?_
        refine hl_yg 8 21 false rfl rfl rfl rfl rfl (y_as (y_gtrn (q := 200) rfl rfl rfl ) (congrArg Value.bool (decide_eq_false (by omega)))) ?_
        refine hl_y rfl rfl rfl (y_pick (b := false) rfl rfl rfl) ?_
        refine hl_y rfl rfl rfl (y_move rfl rfl) ?_
        refine hl_yg 13 26 false rfl rfl rfl rfl rfl (y_move rfl rfl) ?_
        refine hl_yg 13 26 false rfl rfl rfl rfl rfl (y_as (y_gtri (q := 300) rfl rfl rfl ) (congrArg Value.bool (decide_eq_false (by omega)))) ?_
        refine hl_yg 13 26 false rfl rfl rfl rfl rfl (y_move rfl rfl) ?_
        refine hl_no 16 29 true false rfl rfl rfl rfl rfl rfl ?_
        refine hl_no 16 29 true false rfl rfl rfl rfl rfl rfl ?_
        refine hl_yg 13 26 false rfl rfl rfl rfl rfl (y_pick (b := false) rfl rfl rfl) ?_
        refine hl_y rfl rfl rfl (y_pick (b := false) rfl rfl rfl) ?_
        refine hl_nil ?_
        refine hq_then ?_
        refine hc_ifF rfl ?_
        refine hc_skip ?_
        refine hq_then ?_
        refine hc_seq ?_
        refine hc_region ?_
        refine hl_y rfl rfl rfl (y_move rfl rfl) ?_
        refine hl_y rfl rfl rfl (y_move rfl rfl) ?_
        refine hl_y rfl rfl rfl (y_move rfl rfl) ?_
        refine hl_i rfl rfl rfl (e_call0 rfl F48 rfl (fun w hw => kdf_Expand_neg tl _ il _ _ (by omega) (by omega) w ((rdF ht) w hw) (by first | omega | (simp only [List.length_append, List.length_take, List.length_drop, List.length_replicate, List.length_cons, List.length_nil, putL_len, shaL_len, overL_len, macKey_len, hmacL_len, tgL_len, outN_len, expN_len, infoL_len, derL_len]; omega) | (simp only [List.length_append, List.length_take, List.length_drop, List.length_replicate, List.length_cons, List.length_nil, putL_len, shaL_len, overL_len, macKey_len, hmacL_len, tgL_len, outN_len, expN_len, infoL_len, derL_len] at *; omega)) ((rdF hi) w hw) (by first | omega | (simp only [List.length_append, List.length_take, List.length_drop, List.length_replicate, List.length_cons, List.length_nil, putL_len, shaL_len, overL_len, macKey_len, hmacL_len, tgL_len, outN_len, expN_len, infoL_len, derL_len]; omega) | (simp only [List.length_append, List.length_take, List.length_drop, List.length_replicate, List.length_cons, List.length_nil, putL_len, shaL_len, overL_len, macKey_len, hmacL_len, tgL_len, outN_len, expN_len, infoL_len, derL_len] at *; omega))) rfl) ?_; intro _
        refine hl_y rfl rfl rfl (y_move rfl rfl) ?_
        refine hl_y rfl rfl rfl (y_extract rfl rfl rfl) ?_
        refine hl_y rfl rfl rfl (y_extract rfl rfl rfl) ?_
        refine hl_y rfl rfl rfl (y_assign rfl rfl) ?_
        refine hl_y rfl rfl rfl (y_assign rfl rfl) ?_
        refine hl_nil ?_
        refine hq_then ?_
        refine hc_seq ?_
        refine hc_region ?_
        refine hl_y rfl rfl rfl (y_move rfl rfl) ?_
        refine hl_y rfl rfl rfl (y_move rfl rfl) ?_
        refine hl_y rfl rfl rfl (y_move rfl rfl) ?_
        refine hl_i rfl rfl rfl (e_call0 rfl F49 rfl (fun w hw => r09_Expand_neg tl _ il _ _ (by omega) (by omega) w ((rdF ht) w hw) (by first | omega | (simp only [List.length_append, List.length_take, List.length_drop, List.length_replicate, List.length_cons, List.length_nil, putL_len, shaL_len, overL_len, macKey_len, hmacL_len, tgL_len, outN_len, expN_len, infoL_len, derL_len]; omega) | (simp only [List.length_append, List.length_take, List.length_drop, List.length_replicate, List.length_cons, List.length_nil, putL_len, shaL_len, overL_len, macKey_len, hmacL_len, tgL_len, outN_len, expN_len, infoL_len, derL_len] at *; omega)) ((rdF hi) w hw) (by first | omega | (simp only [List.length_append, List.length_take, List.length_drop, List.length_replicate, List.length_cons, List.length_nil, putL_len, shaL_len, overL_len, macKey_len, hmacL_len, tgL_len, outN_len, expN_len, infoL_len, derL_len]; omega) | (simp only [List.length_append, List.length_take, List.length_drop, List.length_replicate, List.length_cons, List.length_nil, putL_len, shaL_len, overL_len, macKey_len, hmacL_len, tgL_len, outN_len, expN_len, infoL_len, derL_len] at *; omega))) rfl) ?_; intro _
        refine hl_y rfl rfl rfl (y_move rfl rfl) ?_
        refine hl_y rfl rfl rfl (y_extract rfl rfl rfl) ?_
        refine hl_y rfl rfl rfl (y_extract rfl rfl rfl) ?_
        refine hl_y rfl rfl rfl (y_assign rfl rfl) ?_
        refine hl_y rfl rfl rfl (y_assign rfl rfl) ?_
        refine hl_nil ?_
        refine hq_then ?_
        refine hc_seq ?_
        refine hc_region ?_
        refine hl_y rfl rfl rfl (y_move rfl rfl) ?_
        refine hl_y rfl rfl rfl (y_move rfl rfl) ?_
        refine hl_i rfl rfl rfl (e_call rfl F50 rfl (fun w hw => kdf_Extract_ct kl _ tl _ w ((rdF hk) w hw) (by first | omega | (simp only [List.length_append, List.length_take, List.length_drop, List.length_replicate, List.length_cons, List.length_nil, putL_len, shaL_len, overL_len, macKey_len, hmacL_len, tgL_len, outN_len, expN_len, infoL_len, derL_len]; omega) | (simp only [List.length_append, List.length_take, List.length_drop, List.length_replicate, List.length_cons, List.length_nil, putL_len, shaL_len, overL_len, macKey_len, hmacL_len, tgL_len, outN_len, expN_len, infoL_len, derL_len] at *; omega)) ((rdF ht) w hw) (by first | omega | (simp only [List.length_append, List.length_take, List.length_drop, List.length_replicate, List.length_cons, List.length_nil, putL_len, shaL_len, overL_len, macKey_len, hmacL_len, tgL_len, outN_len, expN_len, infoL_len, derL_len]; omega) | (simp only [List.length_append, List.length_take, List.length_drop, List.length_replicate, List.length_cons, List.length_nil, putL_len, shaL_len, overL_len, macKey_len, hmacL_len, tgL_len, outN_len, expN_len, infoL_len, derL_len] at *; omega)) (hkl.below (Mm.out hw).low)) rfl) ?_; intro y51
        refine hl_y rfl rfl rfl (y_move rfl rfl) ?_
        refine hl_y rfl rfl rfl (y_move rfl rfl) ?_
        refine hl_i rfl rfl rfl (e_call rfl F42 rfl (fun w hw => r08_Of_ct kl _ tl _ w ((rdF hk) w hw) (by first | omega | (simp only [List.length_append, List.length_take, List.length_drop, List.length_replicate, List.length_cons, List.length_nil, putL_len, shaL_len, overL_len, macKey_len, hmacL_len, tgL_len, outN_len, expN_len, infoL_len, derL_len]; omega) | (simp only [List.length_append, List.length_take, List.length_drop, List.length_replicate, List.length_cons, List.length_nil, putL_len, shaL_len, overL_len, macKey_len, hmacL_len, tgL_len, outN_len, expN_len, infoL_len, derL_len] at *; omega)) ((rdF ht) w hw) (by first | omega | (simp only [List.length_append, List.length_take, List.length_drop, List.length_replicate, List.length_cons, List.length_nil, putL_len, shaL_len, overL_len, macKey_len, hmacL_len, tgL_len, outN_len, expN_len, infoL_len, derL_len]; omega) | (simp only [List.length_append, List.length_take, List.length_drop, List.length_replicate, List.length_cons, List.length_nil, putL_len, shaL_len, overL_len, macKey_len, hmacL_len, tgL_len, outN_len, expN_len, infoL_len, derL_len] at *; omega))) rfl) ?_; intro y54
        refine hl_i rfl rfl rfl (e_call0 rfl F19 rfl (fun w hw => r01_Same_t _ _ _ _ w ((rdR 1 rfl) w hw) ((rdR 0 rfl) w hw) (by first | omega | (simp only [List.length_append, List.length_take, List.length_drop, List.length_replicate, List.length_cons, List.length_nil, putL_len, shaL_len, overL_len, macKey_len, hmacL_len, tgL_len, outN_len, expN_len, infoL_len, derL_len]; omega) | (simp only [List.length_append, List.length_take, List.length_drop, List.length_replicate, List.length_cons, List.length_nil, putL_len, shaL_len, overL_len, macKey_len, hmacL_len, tgL_len, outN_len, expN_len, infoL_len, derL_len] at *; omega)) (rfl)) rfl) ?_; intro _
        refine hl_y rfl rfl rfl (y_move rfl rfl) ?_
        refine hl_yg 7 56 true rfl rfl rfl rfl rfl (y_move rfl rfl) ?_
        refine hl_yg 7 56 true rfl rfl rfl rfl rfl (y_move rfl rfl) ?_
        refine hl_ig 7 56 true rfl rfl rfl rfl rfl (e_call0 rfl F19 rfl (fun w hw => r01_Same_t _ _ _ _ w (rd_nilb w hw) (rd_nilb w hw) (by first | omega | (simp only [List.length_append, List.length_take, List.length_drop, List.length_replicate, List.length_cons, List.length_nil, putL_len, shaL_len, overL_len, macKey_len, hmacL_len, tgL_len, outN_len, expN_len, infoL_len, derL_len]; omega) | (simp only [List.length_append, List.length_take, List.length_drop, List.length_replicate, List.length_cons, List.length_nil, putL_len, shaL_len, overL_len, macKey_len, hmacL_len, tgL_len, outN_len, expN_len, infoL_len, derL_len] at *; omega)) (rfl)) rfl) ?_; intro _
        refine hl_y rfl rfl rfl (y_pick (b := true) rfl rfl rfl) ?_
        refine hl_y rfl rfl rfl (y_move rfl rfl) ?_
        refine hl_yg 12 61 true rfl rfl rfl rfl rfl (y_move rfl rfl) ?_
        refine hl_yg 12 61 true rfl rfl rfl rfl rfl (y_move rfl rfl) ?_
        refine hl_yg 12 61 true rfl rfl rfl rfl rfl (y_as (y_eqln rfl rfl rfl ) (congrArg Value.bool (decide_eq_true (by omega)))) ?_
        refine hl_y rfl rfl rfl (y_pick (b := true) rfl rfl rfl) ?_
        refine hl_y rfl rfl rfl (y_move rfl rfl) ?_
        refine hl_ig 17 66 true rfl rfl rfl rfl rfl (e_call0 rfl F47 rfl (fun w hw => law09_alive_ct w (hkl.below (Mm.out hw).low)) rfl) ?_; intro _
        refine hl_y rfl rfl rfl (y_pick (b := true) rfl rfl rfl) ?_
        refine hl_y rfl rfl rfl (y_assign rfl rfl) ?_
        refine hl_nil ?_
        refine hq_then ?_
        refine hc_ret ?_
        exact hq_ret1 (()) rfl (rv_tmp rfl) rfl (fun _ h => Mm.pick h [] (by simp))

set_option maxHeartbeats 1000000 in
theorem kdfKeys_ct (kl : List UInt8) (kv : Value) (tl : List UInt8) (tv : Value) (sl : List UInt8) (i : Int) (h0 : -9223372036854775808 ≤ i) (h1 : i ≤ 9223372036854775807) (w : World) (hk : Rd w kv (ls vb kl)) (mk : kl.length ≤ 9223372036854775807) (ht : Rd w tv (ls vb tl)) (mt : tl.length ≤ 9223372036854775807) (ms : sl.length ≤ 9223372036854775807) (hkl : KL w) : Ct0 Tryd.prog 14 #[kv, tv, vs sl, .int .i64 i] w (.bool true) := by
  refine ct0_of Tryd.func14 rfl Tryd.ntmps14 rfl ?_
  refine hc_seq ?_
  refine hc_region ?_
  refine hl_y rfl rfl rfl (y_assign rfl rfl) ?_
  refine hl_nil ?_
  refine hq_then ?_
  refine hc_seq ?_
  refine hc_seq ?_
  rcases Decidable.em (200 < kl.length) with k0 | k0
  · skip
    refine hc_region ?_
    refine hl_y rfl rfl rfl (y_move rfl rfl) ?_
    refine hl_y rfl rfl rfl (y_lenE (kl.length) rfl rfl S22 rfl (rdF hk) (by first | rfl | (simp only [ls_len, ns_len, List.length_append, List.length_take, List.length_drop, List.length_replicate, List.length_cons, List.length_nil, putL_len, shaL_len, overL_len, macKey_len, hmacL_len, tgL_len, outN_len, expN_len, infoL_len, derL_len]; done) | (simp only [ls_len, ns_len, List.length_append, List.length_take, List.length_drop, List.length_replicate, List.length_cons, List.length_nil, putL_len, shaL_len, overL_len, macKey_len, hmacL_len, tgL_len, outN_len, expN_len, infoL_len, derL_len]; omega))) ?_
    refine hl_y rfl rfl rfl (y_as (y_gtrn (q := 200) rfl rfl rfl ) (congrArg Value.bool (decide_eq_true (by omega)))) ?_
    refine hl_y rfl rfl rfl (y_move rfl rfl) ?_
    refine hl_no 3 12 false true rfl rfl rfl rfl rfl rfl ?_
    refine hl_no 3 12 false true rfl rfl rfl rfl rfl rfl ?_
    refine hl_no 3 12 false true rfl rfl rfl rfl rfl rfl ?_
    refine hl_y rfl rfl rfl (y_pick (b := true) rfl rfl rfl) ?_
    refine hl_y rfl rfl rfl (y_move rfl rfl) ?_
    refine hl_no 8 17 false true rfl rfl rfl rfl rfl rfl ?_
    refine hl_no 8 17 false true rfl rfl rfl rfl rfl rfl ?_
    refine hl_no 8 17 false true rfl rfl rfl rfl rfl rfl ?_
    refine hl_y rfl rfl rfl (y_pick (b := true) rfl rfl rfl) ?_
    refine hl_y rfl rfl rfl (y_move rfl rfl) ?_
    refine hl_no 13 22 false true rfl rfl rfl rfl rfl rfl ?_
    refine hl_no 13 22 false true rfl rfl rfl rfl rfl rfl ?_
    refine hl_y rfl rfl rfl (y_pick (b := true) rfl rfl rfl) ?_
    refine hl_nil ?_
    refine hq_then ?_
    refine hc_ifT rfl ?_
    refine hc_seq ?_
    refine hc_region ?_
    refine hl_i rfl rfl rfl (e_call0 rfl F47 rfl (fun w hw => law09_alive_ct w (hkl.below (Mm.out hw).low)) rfl) ?_; intro _
    refine hl_y rfl rfl rfl (y_assign rfl rfl) ?_
    refine hl_nil ?_
    refine hq_then ?_
    refine hc_ret ?_
    exact hq_then_ret (hq_ret1 (()) rfl (rv_tmp rfl) rfl (fun _ h => Mm.pick h [] (by simp)))
  · skip
    rcases Decidable.em (200 < tl.length) with k1 | k1
    · skip
      refine hc_region ?_
      refine hl_y rfl rfl rfl (y_move rfl rfl) ?_
      refine hl_y rfl rfl rfl (y_lenE (kl.length) rfl rfl S22 rfl (rdF hk) (by first | rfl | (simp only [ls_len, ns_len, List.length_append, List.length_take, List.length_drop, List.length_replicate, List.length_cons, List.length_nil, putL_len, shaL_len, overL_len, macKey_len, hmacL_len, tgL_len, outN_len, expN_len, infoL_len, derL_len]; done) | (simp only [ls_len, ns_len, List.length_append, List.length_take, List.length_drop, List.length_replicate, List.length_cons, List.length_nil, putL_len, shaL_len, overL_len, macKey_len, hmacL_len, tgL_len, outN_len, expN_len, infoL_len, derL_len]; omega))) ?_
      refine hl_y rfl rfl rfl (y_as (y_gtrn (q := 200) rfl rfl rfl ) (congrArg Value.bool (decide_eq_false (by omega)))) ?_
      refine hl_y rfl rfl rfl (y_move rfl rfl) ?_
      refine hl_yg 3 12 false rfl rfl rfl rfl rfl (y_move rfl rfl) ?_
      refine hl_yg 3 12 false rfl rfl rfl rfl rfl (y_lenE (tl.length) rfl rfl S22 rfl (rdF ht) (by first | rfl | (simp only [ls_len, ns_len, List.length_append, List.length_take, List.length_drop, List.length_replicate, List.length_cons, List.length_nil, putL_len, shaL_len, overL_len, macKey_len, hmacL_len, tgL_len, outN_len, expN_len, infoL_len, derL_len]; done) | (simp only [ls_len, ns_len, List.length_append, List.length_take, List.length_drop, List.length_replicate, List.length_cons, List.length_nil, putL_len, shaL_len, overL_len, macKey_len, hmacL_len, tgL_len, outN_len, expN_len, infoL_len, derL_len]; omega))) ?_
      refine hl_yg 3 12 false rfl rfl rfl rfl rfl (y_as (y_gtrn (q := 200) rfl rfl rfl ) (congrArg Value.bool (decide_eq_true (by omega)))) ?_
      refine hl_y rfl rfl rfl (y_pick (b := false) rfl rfl rfl) ?_
      refine hl_y rfl rfl rfl (y_move rfl rfl) ?_
      refine hl_no 8 17 false true rfl rfl rfl rfl rfl rfl ?_
      refine hl_no 8 17 false true rfl rfl rfl rfl rfl rfl ?_
      refine hl_no 8 17 false true rfl rfl rfl rfl rfl rfl ?_
      refine hl_y rfl rfl rfl (y_pick (b := true) rfl rfl rfl) ?_
      refine hl_y rfl rfl rfl (y_move rfl rfl) ?_
      refine hl_no 13 22 false true rfl rfl rfl rfl rfl rfl ?_
      refine hl_no 13 22 false true rfl rfl rfl rfl rfl rfl ?_
      refine hl_y rfl rfl rfl (y_pick (b := true) rfl rfl rfl) ?_
      refine hl_nil ?_
      refine hq_then ?_
      refine hc_ifT rfl ?_
      refine hc_seq ?_
      refine hc_region ?_
      refine hl_i rfl rfl rfl (e_call0 rfl F47 rfl (fun w hw => law09_alive_ct w (hkl.below (Mm.out hw).low)) rfl) ?_; intro _
      refine hl_y rfl rfl rfl (y_assign rfl rfl) ?_
      refine hl_nil ?_
      refine hq_then ?_
      refine hc_ret ?_
      exact hq_then_ret (hq_ret1 (()) rfl (rv_tmp rfl) rfl (fun _ h => Mm.pick h [] (by simp)))
    · skip
      rcases Decidable.em (400 < sl.length) with k2 | k2
      · skip
        refine hc_region ?_
        refine hl_y rfl rfl rfl (y_move rfl rfl) ?_
        refine hl_y rfl rfl rfl (y_lenE (kl.length) rfl rfl S22 rfl (rdF hk) (by first | rfl | (simp only [ls_len, ns_len, List.length_append, List.length_take, List.length_drop, List.length_replicate, List.length_cons, List.length_nil, putL_len, shaL_len, overL_len, macKey_len, hmacL_len, tgL_len, outN_len, expN_len, infoL_len, derL_len]; done) | (simp only [ls_len, ns_len, List.length_append, List.length_take, List.length_drop, List.length_replicate, List.length_cons, List.length_nil, putL_len, shaL_len, overL_len, macKey_len, hmacL_len, tgL_len, outN_len, expN_len, infoL_len, derL_len]; omega))) ?_
        refine hl_y rfl rfl rfl (y_as (y_gtrn (q := 200) rfl rfl rfl ) (congrArg Value.bool (decide_eq_false (by omega)))) ?_
        refine hl_y rfl rfl rfl (y_move rfl rfl) ?_
        refine hl_yg 3 12 false rfl rfl rfl rfl rfl (y_move rfl rfl) ?_
        refine hl_yg 3 12 false rfl rfl rfl rfl rfl (y_lenE (tl.length) rfl rfl S22 rfl (rdF ht) (by first | rfl | (simp only [ls_len, ns_len, List.length_append, List.length_take, List.length_drop, List.length_replicate, List.length_cons, List.length_nil, putL_len, shaL_len, overL_len, macKey_len, hmacL_len, tgL_len, outN_len, expN_len, infoL_len, derL_len]; done) | (simp only [ls_len, ns_len, List.length_append, List.length_take, List.length_drop, List.length_replicate, List.length_cons, List.length_nil, putL_len, shaL_len, overL_len, macKey_len, hmacL_len, tgL_len, outN_len, expN_len, infoL_len, derL_len]; omega))) ?_
        refine hl_yg 3 12 false rfl rfl rfl rfl rfl (y_as (y_gtrn (q := 200) rfl rfl rfl ) (congrArg Value.bool (decide_eq_false (by omega)))) ?_
        refine hl_y rfl rfl rfl (y_pick (b := false) rfl rfl rfl) ?_
        refine hl_y rfl rfl rfl (y_move rfl rfl) ?_
        refine hl_yg 8 17 false rfl rfl rfl rfl rfl (y_move rfl rfl) ?_
        refine hl_yg 8 17 false rfl rfl rfl rfl rfl (y_lent rfl rfl U9 rfl) ?_
        refine hl_yg 8 17 false rfl rfl rfl rfl rfl (y_as (y_gtrn (q := 400) rfl rfl rfl ) (congrArg Value.bool (decide_eq_true (by omega)))) ?_
        refine hl_y rfl rfl rfl (y_pick (b := false) rfl rfl rfl) ?_
        refine hl_y rfl rfl rfl (y_move rfl rfl) ?_
        refine hl_no 13 22 false true rfl rfl rfl rfl rfl rfl ?_
        refine hl_no 13 22 false true rfl rfl rfl rfl rfl rfl ?_
        refine hl_y rfl rfl rfl (y_pick (b := true) rfl rfl rfl) ?_
        refine hl_nil ?_
        refine hq_then ?_
        refine hc_ifT rfl ?_
        refine hc_seq ?_
        refine hc_region ?_
        refine hl_i rfl rfl rfl (e_call0 rfl F47 rfl (fun w hw => law09_alive_ct w (hkl.below (Mm.out hw).low)) rfl) ?_; intro _
        refine hl_y rfl rfl rfl (y_assign rfl rfl) ?_
        refine hl_nil ?_
        refine hq_then ?_
        refine hc_ret ?_
        exact hq_then_ret (hq_ret1 (()) rfl (rv_tmp rfl) rfl (fun _ h => Mm.pick h [] (by simp)))
      · skip
        rcases Decidable.em ((6 : Int) < i) with k3 | k3
        · skip
          refine hc_region ?_
          refine hl_y rfl rfl rfl (y_move rfl rfl) ?_
          refine hl_y rfl rfl rfl (y_lenE (kl.length) rfl rfl S22 rfl (rdF hk) (by first | rfl | (simp only [ls_len, ns_len, List.length_append, List.length_take, List.length_drop, List.length_replicate, List.length_cons, List.length_nil, putL_len, shaL_len, overL_len, macKey_len, hmacL_len, tgL_len, outN_len, expN_len, infoL_len, derL_len]; done) | (simp only [ls_len, ns_len, List.length_append, List.length_take, List.length_drop, List.length_replicate, List.length_cons, List.length_nil, putL_len, shaL_len, overL_len, macKey_len, hmacL_len, tgL_len, outN_len, expN_len, infoL_len, derL_len]; omega))) ?_
          refine hl_y rfl rfl rfl (y_as (y_gtrn (q := 200) rfl rfl rfl ) (congrArg Value.bool (decide_eq_false (by omega)))) ?_
          refine hl_y rfl rfl rfl (y_move rfl rfl) ?_
          refine hl_yg 3 12 false rfl rfl rfl rfl rfl (y_move rfl rfl) ?_
          refine hl_yg 3 12 false rfl rfl rfl rfl rfl (y_lenE (tl.length) rfl rfl S22 rfl (rdF ht) (by first | rfl | (simp only [ls_len, ns_len, List.length_append, List.length_take, List.length_drop, List.length_replicate, List.length_cons, List.length_nil, putL_len, shaL_len, overL_len, macKey_len, hmacL_len, tgL_len, outN_len, expN_len, infoL_len, derL_len]; done) | (simp only [ls_len, ns_len, List.length_append, List.length_take, List.length_drop, List.length_replicate, List.length_cons, List.length_nil, putL_len, shaL_len, overL_len, macKey_len, hmacL_len, tgL_len, outN_len, expN_len, infoL_len, derL_len]; omega))) ?_
          refine hl_yg 3 12 false rfl rfl rfl rfl rfl (y_as (y_gtrn (q := 200) rfl rfl rfl ) (congrArg Value.bool (decide_eq_false (by omega)))) ?_
          refine hl_y rfl rfl rfl (y_pick (b := false) rfl rfl rfl) ?_
          refine hl_y rfl rfl rfl (y_move rfl rfl) ?_
          refine hl_yg 8 17 false rfl rfl rfl rfl rfl (y_move rfl rfl) ?_
          refine hl_yg 8 17 false rfl rfl rfl rfl rfl (y_lent rfl rfl U9 rfl) ?_
          refine hl_yg 8 17 false rfl rfl rfl rfl rfl (y_as (y_gtrn (q := 400) rfl rfl rfl ) (congrArg Value.bool (decide_eq_false (by omega)))) ?_
          refine hl_y rfl rfl rfl (y_pick (b := false) rfl rfl rfl) ?_
          refine hl_y rfl rfl rfl (y_move rfl rfl) ?_
          refine hl_yg 13 22 false rfl rfl rfl rfl rfl (y_move rfl rfl) ?_
          refine hl_yg 13 22 false rfl rfl rfl rfl rfl (y_as (y_gtri (q := 6) rfl rfl rfl ) (congrArg Value.bool (decide_eq_true (by omega)))) ?_
          refine hl_y rfl rfl rfl (y_pick (b := false) rfl rfl rfl) ?_
          refine hl_nil ?_
          refine hq_then ?_
          refine hc_ifT rfl ?_
          refine hc_seq ?_
          refine hc_region ?_
          refine hl_i rfl rfl rfl (e_call0 rfl F47 rfl (fun w hw => law09_alive_ct w (hkl.below (Mm.out hw).low)) rfl) ?_; intro _
          refine hl_y rfl rfl rfl (y_assign rfl rfl) ?_
          refine hl_nil ?_
          refine hq_then ?_
          refine hc_ret ?_
          exact hq_then_ret (hq_ret1 (()) rfl (rv_tmp rfl) rfl (fun _ h => Mm.pick h [] (by simp)))
        · skip
          refine hc_region ?_
          refine hl_y rfl rfl rfl (y_move rfl rfl) ?_
          refine hl_y rfl rfl rfl (y_lenE (kl.length) rfl rfl S22 rfl (rdF hk) (by first | rfl | (simp only [ls_len, ns_len, List.length_append, List.length_take, List.length_drop, List.length_replicate, List.length_cons, List.length_nil, putL_len, shaL_len, overL_len, macKey_len, hmacL_len, tgL_len, outN_len, expN_len, infoL_len, derL_len]; done) | (simp only [ls_len, ns_len, List.length_append, List.length_take, List.length_drop, List.length_replicate, List.length_cons, List.length_nil, putL_len, shaL_len, overL_len, macKey_len, hmacL_len, tgL_len, outN_len, expN_len, infoL_len, derL_len]; omega))) ?_
          refine hl_y rfl rfl rfl (y_as (y_gtrn (q := 200) rfl rfl rfl ) (congrArg Value.bool (decide_eq_false (by omega)))) ?_
          refine hl_y rfl rfl rfl (y_move rfl rfl) ?_
          refine hl_yg 3 12 false rfl rfl rfl rfl rfl (y_move rfl rfl) ?_
          refine hl_yg 3 12 false rfl rfl rfl rfl rfl (y_lenE (tl.length) rfl rfl S22 rfl (rdF ht) (by first | rfl | (simp only [ls_len, ns_len, List.length_append, List.length_take, List.length_drop, List.length_replicate, List.length_cons, List.length_nil, putL_len, shaL_len, overL_len, macKey_len, hmacL_len, tgL_len, outN_len, expN_len, infoL_len, derL_len]; done) | (simp only [ls_len, ns_len, List.length_append, List.length_take, List.length_drop, List.length_replicate, List.length_cons, List.length_nil, putL_len, shaL_len, overL_len, macKey_len, hmacL_len, tgL_len, outN_len, expN_len, infoL_len, derL_len]; omega))) ?_
          refine hl_yg 3 12 false rfl rfl rfl rfl rfl (y_as (y_gtrn (q := 200) rfl rfl rfl ) (congrArg Value.bool (decide_eq_false (by omega)))) ?_
          refine hl_y rfl rfl rfl (y_pick (b := false) rfl rfl rfl) ?_
          refine hl_y rfl rfl rfl (y_move rfl rfl) ?_
          refine hl_yg 8 17 false rfl rfl rfl rfl rfl (y_move rfl rfl) ?_
          refine hl_yg 8 17 false rfl rfl rfl rfl rfl (y_lent rfl rfl U9 rfl) ?_
          refine hl_yg 8 17 false rfl rfl rfl rfl rfl (y_as (y_gtrn (q := 400) rfl rfl rfl ) (congrArg Value.bool (decide_eq_false (by omega)))) ?_
          refine hl_y rfl rfl rfl (y_pick (b := false) rfl rfl rfl) ?_
          refine hl_y rfl rfl rfl (y_move rfl rfl) ?_
          refine hl_yg 13 22 false rfl rfl rfl rfl rfl (y_move rfl rfl) ?_
          refine hl_yg 13 22 false rfl rfl rfl rfl rfl (y_as (y_gtri (q := 6) rfl rfl rfl ) (congrArg Value.bool (decide_eq_false (by omega)))) ?_
          refine hl_y rfl rfl rfl (y_pick (b := false) rfl rfl rfl) ?_
          refine hl_nil ?_
          refine hq_then ?_
          refine hc_ifF rfl ?_
          refine hc_skip ?_
          refine hq_then ?_
          refine hc_seq ?_
          refine hc_region ?_
          refine hl_y rfl rfl rfl (y_move rfl rfl) ?_
          refine hl_y rfl rfl rfl (y_move rfl rfl) ?_
          refine hl_i rfl rfl rfl (e_call rfl F52 rfl (fun w hw => kdf_Derive_ct kl _ sl w ((rdF hk) w hw) (by first | omega | (simp only [List.length_append, List.length_take, List.length_drop, List.length_replicate, List.length_cons, List.length_nil, putL_len, shaL_len, overL_len, macKey_len, hmacL_len, tgL_len, outN_len, expN_len, infoL_len, derL_len]; omega) | (simp only [List.length_append, List.length_take, List.length_drop, List.length_replicate, List.length_cons, List.length_nil, putL_len, shaL_len, overL_len, macKey_len, hmacL_len, tgL_len, outN_len, expN_len, infoL_len, derL_len] at *; omega)) (by first | omega | decide | (simp; omega)) (hkl.below (Mm.out hw).low)) rfl) ?_; intro y29
          refine hl_y rfl rfl rfl (y_move rfl rfl) ?_
          refine hl_y rfl rfl rfl (y_move rfl rfl) ?_
          refine hl_i rfl rfl rfl (e_call rfl F53 rfl (fun w hw => r09_Derive_ct kl _ sl w ((rdF hk) w hw) (by first | omega | (simp only [List.length_append, List.length_take, List.length_drop, List.length_replicate, List.length_cons, List.length_nil, putL_len, shaL_len, overL_len, macKey_len, hmacL_len, tgL_len, outN_len, expN_len, infoL_len, derL_len]; omega) | (simp only [List.length_append, List.length_take, List.length_drop, List.length_replicate, List.length_cons, List.length_nil, putL_len, shaL_len, overL_len, macKey_len, hmacL_len, tgL_len, outN_len, expN_len, infoL_len, derL_len] at *; omega)) (by first | omega | decide | (simp; omega))) rfl) ?_; intro y32
          refine hl_i rfl rfl rfl (e_call0 rfl F19 rfl (fun w hw => r01_Same_t _ _ _ _ w (((rdW3 1 rfl (derL_len _ _))) w hw) (((rdW2 0 rfl (derL_len _ _))) w hw) (by first | omega | (simp only [List.length_append, List.length_take, List.length_drop, List.length_replicate, List.length_cons, List.length_nil, putL_len, shaL_len, overL_len, macKey_len, hmacL_len, tgL_len, outN_len, expN_len, infoL_len, derL_len]; omega) | (simp only [List.length_append, List.length_take, List.length_drop, List.length_replicate, List.length_cons, List.length_nil, putL_len, shaL_len, overL_len, macKey_len, hmacL_len, tgL_len, outN_len, expN_len, infoL_len, derL_len] at *; omega)) (rfl)) rfl) ?_; intro _
          refine hl_y rfl rfl rfl (y_move rfl rfl) ?_
          refine hl_yg 7 34 true rfl rfl rfl rfl rfl (y_move rfl rfl) ?_
          refine hl_yg 7 34 true rfl rfl rfl rfl rfl (y_move rfl rfl) ?_
          refine hl_ig 7 34 true rfl rfl rfl rfl rfl (e_call rfl F54 rfl (fun w hw => kdf_Mix_ct kl _ tl _ w ((rdF hk) w hw) (by first | omega | (simp only [List.length_append, List.length_take, List.length_drop, List.length_replicate, List.length_cons, List.length_nil, putL_len, shaL_len, overL_len, macKey_len, hmacL_len, tgL_len, outN_len, expN_len, infoL_len, derL_len]; omega) | (simp only [List.length_append, List.length_take, List.length_drop, List.length_replicate, List.length_cons, List.length_nil, putL_len, shaL_len, overL_len, macKey_len, hmacL_len, tgL_len, outN_len, expN_len, infoL_len, derL_len] at *; omega)) ((rdF ht) w hw) (by first | omega | (simp only [List.length_append, List.length_take, List.length_drop, List.length_replicate, List.length_cons, List.length_nil, putL_len, shaL_len, overL_len, macKey_len, hmacL_len, tgL_len, outN_len, expN_len, infoL_len, derL_len]; omega) | (simp only [List.length_append, List.length_take, List.length_drop, List.length_replicate, List.length_cons, List.length_nil, putL_len, shaL_len, overL_len, macKey_len, hmacL_len, tgL_len, outN_len, expN_len, infoL_len, derL_len] at *; omega)) (hkl.below (Mm.out hw).low)) rfl) ?_; intro y37
          refine hl_yg 7 34 true rfl rfl rfl rfl rfl (y_move rfl rfl) ?_
          refine hl_yg 7 34 true rfl rfl rfl rfl rfl (y_move rfl rfl) ?_
          refine hl_ig 7 34 true rfl rfl rfl rfl rfl (e_call rfl F55 rfl (fun w hw => r09_Mix_ct kl _ tl _ w ((rdF hk) w hw) (by first | omega | (simp only [List.length_append, List.length_take, List.length_drop, List.length_replicate, List.length_cons, List.length_nil, putL_len, shaL_len, overL_len, macKey_len, hmacL_len, tgL_len, outN_len, expN_len, infoL_len, derL_len]; omega) | (simp only [List.length_append, List.length_take, List.length_drop, List.length_replicate, List.length_cons, List.length_nil, putL_len, shaL_len, overL_len, macKey_len, hmacL_len, tgL_len, outN_len, expN_len, infoL_len, derL_len] at *; omega)) ((rdF ht) w hw) (by first | omega | (simp only [List.length_append, List.length_take, List.length_drop, List.length_replicate, List.length_cons, List.length_nil, putL_len, shaL_len, overL_len, macKey_len, hmacL_len, tgL_len, outN_len, expN_len, infoL_len, derL_len]; omega) | (simp only [List.length_append, List.length_take, List.length_drop, List.length_replicate, List.length_cons, List.length_nil, putL_len, shaL_len, overL_len, macKey_len, hmacL_len, tgL_len, outN_len, expN_len, infoL_len, derL_len] at *; omega))) rfl) ?_; intro y40
          refine hl_ig 7 34 true rfl rfl rfl rfl rfl (e_call0 rfl F19 rfl (fun w hw => r01_Same_t _ _ _ _ w ((rdR 1 rfl) w hw) ((rdR 0 rfl) w hw) (by first | omega | (simp only [List.length_append, List.length_take, List.length_drop, List.length_replicate, List.length_cons, List.length_nil, putL_len, shaL_len, overL_len, macKey_len, hmacL_len, tgL_len, outN_len, expN_len, infoL_len, derL_len]; omega) | (simp only [List.length_append, List.length_take, List.length_drop, List.length_replicate, List.length_cons, List.length_nil, putL_len, shaL_len, overL_len, macKey_len, hmacL_len, tgL_len, outN_len, expN_len, infoL_len, derL_len] at *; omega)) (rfl)) rfl) ?_; intro _
          refine hl_y rfl rfl rfl (y_pick (b := true) rfl rfl rfl) ?_
          refine hl_y rfl rfl rfl (y_move rfl rfl) ?_
          refine hl_yg 16 43 true rfl rfl rfl rfl rfl (y_move rfl rfl) ?_
          refine hl_yg 16 43 true rfl rfl rfl rfl rfl (y_move rfl rfl) ?_
          refine hl_yg 16 43 true rfl rfl rfl rfl rfl (y_move rfl rfl) ?_
          refine hl_ig 16 43 true rfl rfl rfl rfl rfl (e_call rfl F51 rfl (fun w hw => kdf_Chain_ct kl _ sl i ((min (max i 0) 1000).toNat) (by omega) w ((rdF hk) w hw) (by first | omega | (simp only [List.length_append, List.length_take, List.length_drop, List.length_replicate, List.length_cons, List.length_nil, putL_len, shaL_len, overL_len, macKey_len, hmacL_len, tgL_len, outN_len, expN_len, infoL_len, derL_len]; omega) | (simp only [List.length_append, List.length_take, List.length_drop, List.length_replicate, List.length_cons, List.length_nil, putL_len, shaL_len, overL_len, macKey_len, hmacL_len, tgL_len, outN_len, expN_len, infoL_len, derL_len] at *; omega)) (by first | omega | decide | (simp; omega)) (hkl.below (Mm.out hw).low)) rfl) ?_; intro y47
          refine hl_yg 16 43 true rfl rfl rfl rfl rfl (y_move rfl rfl) ?_
          refine hl_yg 16 43 true rfl rfl rfl rfl rfl (y_move rfl rfl) ?_
          refine hl_yg 16 43 true rfl rfl rfl rfl rfl (y_move rfl rfl) ?_
          refine hl_ig 16 43 true rfl rfl rfl rfl rfl (e_call rfl F56 rfl (fun w hw => r09_Chain_ct kl _ sl i ((min (max i 0) 1000).toNat) (by omega) w ((rdF hk) w hw) (by first | omega | (simp only [List.length_append, List.length_take, List.length_drop, List.length_replicate, List.length_cons, List.length_nil, putL_len, shaL_len, overL_len, macKey_len, hmacL_len, tgL_len, outN_len, expN_len, infoL_len, derL_len]; omega) | (simp only [List.length_append, List.length_take, List.length_drop, List.length_replicate, List.length_cons, List.length_nil, putL_len, shaL_len, overL_len, macKey_len, hmacL_len, tgL_len, outN_len, expN_len, infoL_len, derL_len] at *; omega)) (by first | omega | decide | (simp; omega))) rfl) ?_; intro y51
          refine hl_ig 16 43 true rfl rfl rfl rfl rfl (e_call0 rfl F19 rfl (fun w hw => r01_Same_t _ _ _ _ w (((rdC 1 rfl y47.2)) w hw) (((rdC 0 rfl y51.2)) w hw) (Nat.le_trans (chL_le _ _ _ (by omega)) (by decide)) (rfl)) rfl) ?_; intro _
          refine hl_y rfl rfl rfl (y_pick (b := true) rfl rfl rfl) ?_
          refine hl_y rfl rfl rfl (y_move rfl rfl) ?_
          refine hl_ig 27 54 true rfl rfl rfl rfl rfl (e_call0 rfl F47 rfl (fun w hw => law09_alive_ct w (hkl.below (Mm.out hw).low)) rfl) ?_; intro _
          refine hl_y rfl rfl rfl (y_pick (b := true) rfl rfl rfl) ?_
          refine hl_y rfl rfl rfl (y_assign rfl rfl) ?_
          refine hl_nil ?_
          refine hq_then ?_
          refine hc_ret ?_
          exact hq_ret1 (()) rfl (rv_tmp rfl) rfl (fun _ h => Mm.pick h [] (by simp))

set_option maxHeartbeats 1000000 in
theorem kdfFewer_pp (kl : List UInt8) (kv : Value) (il : List UInt8) (iv : Value) (sl : List UInt8) (n m : Nat) (hn : n ≤ 9223372036854775807) (hm : m ≤ 9223372036854775807) (w : World) (hk : Rd w kv (ls vb kl)) (mk : kl.length ≤ 9223372036854775807) (hi : Rd w iv (ls vb il)) (mi : il.length ≤ 9223372036854775807) (ms : sl.length ≤ 9223372036854775807) (hkl : KL w) : Ct0 Tryd.prog 13 #[kv, iv, vi n, vi m, vs sl] w (.bool true) := by
  refine ct0_of Tryd.func13 rfl Tryd.ntmps13 rfl ?_
  refine hc_seq ?_
  refine hc_region ?_
  refine hl_y rfl rfl rfl (y_assign rfl rfl) ?_
  refine hl_nil ?_
  refine hq_then ?_
  refine hc_seq ?_
  refine hc_seq ?_
  rcases Decidable.em (200 < kl.length) with k0 | k0
  · skip
    refine hc_region ?_
    refine hl_y rfl rfl rfl (y_move rfl rfl) ?_
    refine hl_y rfl rfl rfl (y_lenE (kl.length) rfl rfl S22 rfl (rdF hk) (by first | rfl | (simp only [ls_len, ns_len, List.length_append, List.length_take, List.length_drop, List.length_replicate, List.length_cons, List.length_nil, putL_len, shaL_len, overL_len, macKey_len, hmacL_len, tgL_len, outN_len, expN_len, infoL_len, derL_len]; done) | (simp only [ls_len, ns_len, List.length_append, List.length_take, List.length_drop, List.length_replicate, List.length_cons, List.length_nil, putL_len, shaL_len, overL_len, macKey_len, hmacL_len, tgL_len, outN_len, expN_len, infoL_len, derL_len]; omega))) ?_
    refine hl_y rfl rfl rfl (y_as (y_gtrn (q := 200) rfl rfl rfl ) (congrArg Value.bool (decide_eq_true (by omega)))) ?_
    refine hl_y rfl rfl rfl (y_move rfl rfl) ?_
    refine hl_no 3 18 false true rfl rfl rfl rfl rfl rfl ?_
    refine hl_no 3 18 false true rfl rfl rfl rfl rfl rfl ?_
    refine hl_no 3 18 false true rfl rfl rfl rfl rfl rfl ?_
    refine hl_y rfl rfl rfl (y_pick (b := true) rfl rfl rfl) ?_
    refine hl_y rfl rfl rfl (y_move rfl rfl) ?_
    refine hl_no 8 23 false true rfl rfl rfl rfl rfl rfl ?_
    refine hl_no 8 23 false true rfl rfl rfl rfl rfl rfl ?_
    refine hl_y rfl rfl rfl (y_pick (b := true) rfl rfl rfl) ?_
    refine hl_y rfl rfl rfl (y_move rfl rfl) ?_
    refine hl_no 12 27 false true rfl rfl rfl rfl rfl rfl ?_
    refine hl_no 12 27 false true rfl rfl rfl rfl rfl rfl ?_
    refine hl_y rfl rfl rfl (y_pick (b := true) rfl rfl rfl) ?_
    refine hl_y rfl rfl rfl (y_move rfl rfl) ?_
    refine hl_no 16 31 false true rfl rfl rfl rfl rfl rfl ?_
    refine hl_no 16 31 false true rfl rfl rfl rfl rfl rfl ?_
    refine hl_y rfl rfl rfl (y_pick (b := true) rfl rfl rfl) ?_
    refine hl_y rfl rfl rfl (y_move rfl rfl) ?_
    refine hl_no 20 35 false true rfl rfl rfl rfl rfl rfl ?_
    refine hl_no 20 35 false true rfl rfl rfl rfl rfl rfl ?_
    refine hl_y rfl rfl rfl (y_pick (b := true) rfl rfl rfl) ?_
    refine hl_y rfl rfl rfl (y_move rfl rfl) ?_
    refine hl_no 24 39 false true rfl rfl rfl rfl rfl rfl ?_
    refine hl_no 24 39 false true rfl rfl rfl rfl rfl rfl ?_
    refine hl_no 24 39 false true rfl rfl rfl rfl rfl rfl ?_
    refine hl_y rfl rfl rfl (y_pick (b := true) rfl rfl rfl) ?_
    refine hl_nil ?_
    refine hq_then ?_
    refine hc_ifT rfl ?_
    refine hc_seq ?_
    refine hc_region ?_
    refine hl_i rfl rfl rfl (e_call0 rfl F47 rfl (fun w hw => law09_alive_ct w (hkl.below (Mm.out hw).low)) rfl) ?_; intro _
    refine hl_y rfl rfl rfl (y_assign rfl rfl) ?_
    refine hl_nil ?_
    refine hq_then ?_
    refine hc_ret ?_
    exact hq_then_ret (hq_ret1 (()) rfl (rv_tmp rfl) rfl (fun _ h => Mm.pick h [] (by simp)))
  · skip
    rcases Decidable.em (200 < il.length) with k1 | k1
    · skip
      refine hc_region ?_
      refine hl_y rfl rfl rfl (y_move rfl rfl) ?_
      refine hl_y rfl rfl rfl (y_lenE (kl.length) rfl rfl S22 rfl (rdF hk) (by first | rfl | (simp only [ls_len, ns_len, List.length_append, List.length_take, List.length_drop, List.length_replicate, List.length_cons, List.length_nil, putL_len, shaL_len, overL_len, macKey_len, hmacL_len, tgL_len, outN_len, expN_len, infoL_len, derL_len]; done) | (simp only [ls_len, ns_len, List.length_append, List.length_take, List.length_drop, List.length_replicate, List.length_cons, List.length_nil, putL_len, shaL_len, overL_len, macKey_len, hmacL_len, tgL_len, outN_len, expN_len, infoL_len, derL_len]; omega))) ?_
      refine hl_y rfl rfl rfl (y_as (y_gtrn (q := 200) rfl rfl rfl ) (congrArg Value.bool (decide_eq_false (by omega)))) ?_
      refine hl_y rfl rfl rfl (y_move rfl rfl) ?_
      refine hl_yg 3 18 false rfl rfl rfl rfl rfl (y_move rfl rfl) ?_
      refine hl_yg 3 18 false rfl rfl rfl rfl rfl (y_lenE (il.length) rfl rfl S22 rfl (rdF hi) (by first | rfl | (simp only [ls_len, ns_len, List.length_append, List.length_take, List.length_drop, List.length_replicate, List.length_cons, List.length_nil, putL_len, shaL_len, overL_len, macKey_len, hmacL_len, tgL_len, outN_len, expN_len, infoL_len, derL_len]; done) | (simp only [ls_len, ns_len, List.length_append, List.length_take, List.length_drop, List.length_replicate, List.length_cons, List.length_nil, putL_len, shaL_len, overL_len, macKey_len, hmacL_len, tgL_len, outN_len, expN_len, infoL_len, derL_len]; omega))) ?_
      refine hl_yg 3 18 false rfl rfl rfl rfl rfl (y_as (y_gtrn (q := 200) rfl rfl rfl ) (congrArg Value.bool (decide_eq_true (by omega)))) ?_
      refine hl_y rfl rfl rfl (y_pick (b := false) rfl rfl rfl) ?_
      refine hl_y rfl rfl rfl (y_move rfl rfl) ?_
      refine hl_no 8 23 false true rfl rfl rfl rfl rfl rfl ?_
      refine hl_no 8 23 false true rfl rfl rfl rfl rfl rfl ?_
      refine hl_y rfl rfl rfl (y_pick (b := true) rfl rfl rfl) ?_
      refine hl_y rfl rfl rfl (y_move rfl rfl) ?_
      refine hl_no 12 27 false true rfl rfl rfl rfl rfl rfl ?_
      refine hl_no 12 27 false true rfl rfl rfl rfl rfl rfl ?_
      refine hl_y rfl rfl rfl (y_pick (b := true) rfl rfl rfl) ?_
      refine hl_y rfl rfl rfl (y_move rfl rfl) ?_
      refine hl_no 16 31 false true rfl rfl rfl rfl rfl rfl ?_
      refine hl_no 16 31 false true rfl rfl rfl rfl rfl rfl ?_
      refine hl_y rfl rfl rfl (y_pick (b := true) rfl rfl rfl) ?_
      refine hl_y rfl rfl rfl (y_move rfl rfl) ?_
      refine hl_no 20 35 false true rfl rfl rfl rfl rfl rfl ?_
      refine hl_no 20 35 false true rfl rfl rfl rfl rfl rfl ?_
      refine hl_y rfl rfl rfl (y_pick (b := true) rfl rfl rfl) ?_
      refine hl_y rfl rfl rfl (y_move rfl rfl) ?_
      refine hl_no 24 39 false true rfl rfl rfl rfl rfl rfl ?_
      refine hl_no 24 39 false true rfl rfl rfl rfl rfl rfl ?_
      refine hl_no 24 39 false true rfl rfl rfl rfl rfl rfl ?_
      refine hl_y rfl rfl rfl (y_pick (b := true) rfl rfl rfl) ?_
      refine hl_nil ?_
      refine hq_then ?_
      refine hc_ifT rfl ?_
      refine hc_seq ?_
      refine hc_region ?_
      refine hl_i rfl rfl rfl (e_call0 rfl F47 rfl (fun w hw => law09_alive_ct w (hkl.below (Mm.out hw).low)) rfl) ?_; intro _
      refine hl_y rfl rfl rfl (y_assign rfl rfl) ?_
      refine hl_nil ?_
      refine hq_then ?_
      refine hc_ret ?_
      exact hq_then_ret (hq_ret1 (()) rfl (rv_tmp rfl) rfl (fun _ h => Mm.pick h [] (by simp)))
    · skip
      rcases Decidable.em (n < 1) with k2 | k2
      · skip
        refine hc_region ?_
        refine hl_y rfl rfl rfl (y_move rfl rfl) ?_
        refine hl_y rfl rfl rfl (y_lenE (kl.length) rfl rfl S22 rfl (rdF hk) (by first | rfl | (simp only [ls_len, ns_len, List.length_append, List.length_take, List.length_drop, List.length_replicate, List.length_cons, List.length_nil, putL_len, shaL_len, overL_len, macKey_len, hmacL_len, tgL_len, outN_len, expN_len, infoL_len, derL_len]; done) | (simp only [ls_len, ns_len, List.length_append, List.length_take, List.length_drop, List.length_replicate, List.length_cons, List.length_nil, putL_len, shaL_len, overL_len, macKey_len, hmacL_len, tgL_len, outN_len, expN_len, infoL_len, derL_len]; omega))) ?_
        refine hl_y rfl rfl rfl (y_as (y_gtrn (q := 200) rfl rfl rfl ) (congrArg Value.bool (decide_eq_false (by omega)))) ?_
        refine hl_y rfl rfl rfl (y_move rfl rfl) ?_
        refine hl_yg 3 18 false rfl rfl rfl rfl rfl (y_move rfl rfl) ?_
        refine hl_yg 3 18 false rfl rfl rfl rfl rfl (y_lenE (il.length) rfl rfl S22 rfl (rdF hi) (by first | rfl | (simp only [ls_len, ns_len, List.length_append, List.length_take, List.length_drop, List.length_replicate, List.length_cons, List.length_nil, putL_len, shaL_len, overL_len, macKey_len, hmacL_len, tgL_len, outN_len, expN_len, infoL_len, derL_len]; done) | (simp only [ls_len, ns_len, List.length_append, List.length_take, List.length_drop, List.length_replicate, List.length_cons, List.length_nil, putL_len, shaL_len, overL_len, macKey_len, hmacL_len, tgL_len, outN_len, expN_len, infoL_len, derL_len]; omega))) ?_
        refine hl_yg 3 18 false rfl rfl rfl rfl rfl (y_as (y_gtrn (q := 200) rfl rfl rfl ) (congrArg Value.bool (decide_eq_false (by omega)))) ?_
        refine hl_y rfl rfl rfl (y_pick (b := false) rfl rfl rfl) ?_
        refine hl_y rfl rfl rfl (y_move rfl rfl) ?_
        refine hl_yg 8 23 false rfl rfl rfl rfl rfl (y_move rfl rfl) ?_
        refine hl_yg 8 23 false rfl rfl rfl rfl rfl (y_as (y_lssn (q := 1) rfl rfl rfl ) (congrArg Value.bool (decide_eq_true (by omega)))) ?_
        refine hl_y rfl rfl rfl (y_pick (b := false) rfl rfl rfl) ?_
        refine hl_y rfl rfl rfl (y_move rfl rfl) ?_
        refine hl_no 12 27 false true rfl rfl rfl rfl rfl rfl ?_
        refine hl_no 12 27 false true rfl rfl rfl rfl rfl rfl ?_
        refine hl_y rfl rfl rfl (y_pick (b := true) rfl rfl rfl) ?_
        refine hl_y rfl rfl rfl (y_move rfl rfl) ?_
        refine hl_no 16 31 false true rfl rfl rfl rfl rfl rfl ?_
        refine hl_no 16 31 false true rfl rfl rfl rfl rfl rfl ?_
        refine hl_y rfl rfl rfl (y_pick (b := true) rfl rfl rfl) ?_
        refine hl_y rfl rfl rfl (y_move rfl rfl) ?_
        refine hl_no 20 35 false true rfl rfl rfl rfl rfl rfl ?_
        refine hl_no 20 35 false true rfl rfl rfl rfl rfl rfl ?_
        refine hl_y rfl rfl rfl (y_pick (b := true) rfl rfl rfl) ?_
        refine hl_y rfl rfl rfl (y_move rfl rfl) ?_
        refine hl_no 24 39 false true rfl rfl rfl rfl rfl rfl ?_
        refine hl_no 24 39 false true rfl rfl rfl rfl rfl rfl ?_
        refine hl_no 24 39 false true rfl rfl rfl rfl rfl rfl ?_
        refine hl_y rfl rfl rfl (y_pick (b := true) rfl rfl rfl) ?_
        refine hl_nil ?_
        refine hq_then ?_
        refine hc_ifT rfl ?_
        refine hc_seq ?_
        refine hc_region ?_
        refine hl_i rfl rfl rfl (e_call0 rfl F47 rfl (fun w hw => law09_alive_ct w (hkl.below (Mm.out hw).low)) rfl) ?_; intro _
        refine hl_y rfl rfl rfl (y_assign rfl rfl) ?_
        refine hl_nil ?_
        refine hq_then ?_
        refine hc_ret ?_
        exact hq_then_ret (hq_ret1 (()) rfl (rv_tmp rfl) rfl (fun _ h => Mm.pick h [] (by simp)))
      · skip
        rcases Decidable.em (100 < n) with k3 | k3
        · skip
          refine hc_region ?_
          refine hl_y rfl rfl rfl (y_move rfl rfl) ?_
          refine hl_y rfl rfl rfl (y_lenE (kl.length) rfl rfl S22 rfl (rdF hk) (by first | rfl | (simp only [ls_len, ns_len, List.length_append, List.length_take, List.length_drop, List.length_replicate, List.length_cons, List.length_nil, putL_len, shaL_len, overL_len, macKey_len, hmacL_len, tgL_len, outN_len, expN_len, infoL_len, derL_len]; done) | (simp only [ls_len, ns_len, List.length_append, List.length_take, List.length_drop, List.length_replicate, List.length_cons, List.length_nil, putL_len, shaL_len, overL_len, macKey_len, hmacL_len, tgL_len, outN_len, expN_len, infoL_len, derL_len]; omega))) ?_
          refine hl_y rfl rfl rfl (y_as (y_gtrn (q := 200) rfl rfl rfl ) (congrArg Value.bool (decide_eq_false (by omega)))) ?_
          refine hl_y rfl rfl rfl (y_move rfl rfl) ?_
          refine hl_yg 3 18 false rfl rfl rfl rfl rfl (y_move rfl rfl) ?_
          refine hl_yg 3 18 false rfl rfl rfl rfl rfl (y_lenE (il.length) rfl rfl S22 rfl (rdF hi) (by first | rfl | (simp only [ls_len, ns_len, List.length_append, List.length_take, List.length_drop, List.length_replicate, List.length_cons, List.length_nil, putL_len, shaL_len, overL_len, macKey_len, hmacL_len, tgL_len, outN_len, expN_len, infoL_len, derL_len]; done) | (simp only [ls_len, ns_len, List.length_append, List.length_take, List.length_drop, List.length_replicate, List.length_cons, List.length_nil, putL_len, shaL_len, overL_len, macKey_len, hmacL_len, tgL_len, outN_len, expN_len, infoL_len, derL_len]; omega))) ?_
          refine hl_yg 3 18 false rfl rfl rfl rfl rfl (y_as (y_gtrn (q := 200) rfl rfl rfl ) (congrArg Value.bool (decide_eq_false (by omega)))) ?_
          refine hl_y rfl rfl rfl (y_pick (b := false) rfl rfl rfl) ?_
          refine hl_y rfl rfl rfl (y_move rfl rfl) ?_
          refine hl_yg 8 23 false rfl rfl rfl rfl rfl (y_move rfl rfl) ?_
          refine hl_yg 8 23 false rfl rfl rfl rfl rfl (y_as (y_lssn (q := 1) rfl rfl rfl ) (congrArg Value.bool (decide_eq_false (by omega)))) ?_
          refine hl_y rfl rfl rfl (y_pick (b := false) rfl rfl rfl) ?_
          refine hl_y rfl rfl rfl (y_move rfl rfl) ?_
          refine hl_yg 12 27 false rfl rfl rfl rfl rfl (y_move rfl rfl) ?_
          refine hl_yg 12 27 false rfl rfl rfl rfl rfl (y_as (y_gtrn (q := 100) rfl rfl rfl ) (congrArg Value.bool (decide_eq_true (by omega)))) ?_
          refine hl_y rfl rfl rfl (y_pick (b := false) rfl rfl rfl) ?_
          refine hl_y rfl rfl rfl (y_move rfl rfl) ?_
          refine hl_no 16 31 false true rfl rfl rfl rfl rfl rfl ?_
          refine hl_no 16 31 false true rfl rfl rfl rfl rfl rfl ?_
          refine hl_y rfl rfl rfl (y_pick (b := true) rfl rfl rfl) ?_
          refine hl_y rfl rfl rfl (y_move rfl rfl) ?_
          refine hl_no 20 35 false true rfl rfl rfl rfl rfl rfl ?_
          refine hl_no 20 35 false true rfl rfl rfl rfl rfl rfl ?_
          refine hl_y rfl rfl rfl (y_pick (b := true) rfl rfl rfl) ?_
          refine hl_y rfl rfl rfl (y_move rfl rfl) ?_
          refine hl_no 24 39 false true rfl rfl rfl rfl rfl rfl ?_
          refine hl_no 24 39 false true rfl rfl rfl rfl rfl rfl ?_
          refine hl_no 24 39 false true rfl rfl rfl rfl rfl rfl ?_
          refine hl_y rfl rfl rfl (y_pick (b := true) rfl rfl rfl) ?_
          refine hl_nil ?_
          refine hq_then ?_
          refine hc_ifT rfl ?_
          refine hc_seq ?_
          refine hc_region ?_
          refine hl_i rfl rfl rfl (e_call0 rfl F47 rfl (fun w hw => law09_alive_ct w (hkl.below (Mm.out hw).low)) rfl) ?_; intro _
          refine hl_y rfl rfl rfl (y_assign rfl rfl) ?_
          refine hl_nil ?_
          refine hq_then ?_
          refine hc_ret ?_
          exact hq_then_ret (hq_ret1 (()) rfl (rv_tmp rfl) rfl (fun _ h => Mm.pick h [] (by simp)))
        · skip
          rcases Decidable.em (100 < m) with k4 | k4
          · skip
            refine hc_region ?_
            refine hl_y rfl rfl rfl (y_move rfl rfl) ?_
            refine hl_y rfl rfl rfl (y_lenE (kl.length) rfl rfl S22 rfl (rdF hk) (by first | rfl | (simp only [ls_len, ns_len, List.length_append, List.length_take, List.length_drop, List.length_replicate, List.length_cons, List.length_nil, putL_len, shaL_len, overL_len, macKey_len, hmacL_len, tgL_len, outN_len, expN_len, infoL_len, derL_len]; done) | (simp only [ls_len, ns_len, List.length_append, List.length_take, List.length_drop, List.length_replicate, List.length_cons, List.length_nil, putL_len, shaL_len, overL_len, macKey_len, hmacL_len, tgL_len, outN_len, expN_len, infoL_len, derL_len]; omega))) ?_
            refine hl_y rfl rfl rfl (y_as (y_gtrn (q := 200) rfl rfl rfl ) (congrArg Value.bool (decide_eq_false (by omega)))) ?_
            refine hl_y rfl rfl rfl (y_move rfl rfl) ?_
            refine hl_yg 3 18 false rfl rfl rfl rfl rfl (y_move rfl rfl) ?_
            refine hl_yg 3 18 false rfl rfl rfl rfl rfl (y_lenE (il.length) rfl rfl S22 rfl (rdF hi) (by first | rfl | (simp only [ls_len, ns_len, List.length_append, List.length_take, List.length_drop, List.length_replicate, List.length_cons, List.length_nil, putL_len, shaL_len, overL_len, macKey_len, hmacL_len, tgL_len, outN_len, expN_len, infoL_len, derL_len]; done) | (simp only [ls_len, ns_len, List.length_append, List.length_take, List.length_drop, List.length_replicate, List.length_cons, List.length_nil, putL_len, shaL_len, overL_len, macKey_len, hmacL_len, tgL_len, outN_len, expN_len, infoL_len, derL_len]; omega))) ?_
            refine hl_yg 3 18 false rfl rfl rfl rfl rfl (y_as (y_gtrn (q := 200) rfl rfl rfl ) (congrArg Value.bool (decide_eq_false (by omega)))) ?_
            refine hl_y rfl rfl rfl (y_pick (b := false) rfl rfl rfl) ?_
            refine hl_y rfl rfl rfl (y_move rfl rfl) ?_
            refine hl_yg 8 23 false rfl rfl rfl rfl rfl (y_move rfl rfl) ?_
            refine hl_yg 8 23 false rfl rfl rfl rfl rfl (y_as (y_lssn (q := 1) rfl rfl rfl ) (congrArg Value.bool (decide_eq_false (by omega)))) ?_
            refine hl_y rfl rfl rfl (y_pick (b := false) rfl rfl rfl) ?_
            refine hl_y rfl rfl rfl (y_move rfl rfl) ?_
            refine hl_yg 12 27 false rfl rfl rfl rfl rfl (y_move rfl rfl) ?_
            refine hl_yg 12 27 false rfl rfl rfl rfl rfl (y_as (y_gtrn (q := 100) rfl rfl rfl ) (congrArg Value.bool (decide_eq_false (by omega)))) ?_
            refine hl_y rfl rfl rfl (y_pick (b := false) rfl rfl rfl) ?_
            refine hl_y rfl rfl rfl (y_move rfl rfl) ?_
            refine hl_yg 16 31 false rfl rfl rfl rfl rfl (y_move rfl rfl) ?_
            refine hl_yg 16 31 false rfl rfl rfl rfl rfl (y_as (y_lssn (q := 0) rfl rfl rfl ) (congrArg Value.bool (decide_eq_false (by omega)))) ?_
            refine hl_y rfl rfl rfl (y_pick (b := false) rfl rfl rfl) ?_
            refine hl_y rfl rfl rfl (y_move rfl rfl) ?_
            refine hl_yg 20 35 false rfl rfl rfl rfl rfl (y_move rfl rfl) ?_
            refine hl_yg 20 35 false rfl rfl rfl rfl rfl (y_as (y_gtrn (q := 100) rfl rfl rfl ) (congrArg Value.bool (decide_eq_true (by omega)))) ?_
            refine hl_y rfl rfl rfl (y_pick (b := false) rfl rfl rfl) ?_
            refine hl_y rfl rfl rfl (y_move rfl rfl) ?_
            refine hl_no 24 39 false true rfl rfl rfl rfl rfl rfl ?_
            refine hl_no 24 39 false true rfl rfl rfl rfl rfl rfl ?_
            refine hl_no 24 39 false true rfl rfl rfl rfl rfl rfl ?_
            refine hl_y rfl rfl rfl (y_pick (b := true) rfl rfl rfl) ?_
            refine hl_nil ?_
            refine hq_then ?_
            refine hc_ifT rfl ?_
            refine hc_seq ?_
            refine hc_region ?_
            refine hl_i rfl rfl rfl (e_call0 rfl F47 rfl (fun w hw => law09_alive_ct w (hkl.below (Mm.out hw).low)) rfl) ?_; intro _
            refine hl_y rfl rfl rfl (y_assign rfl rfl) ?_
            refine hl_nil ?_
            refine hq_then ?_
            refine hc_ret ?_
            exact hq_then_ret (hq_ret1 (()) rfl (rv_tmp rfl) rfl (fun _ h => Mm.pick h [] (by simp)))
          · skip
            rcases Decidable.em (100 < sl.length) with k5 | k5
            · skip
              refine hc_region ?_
              refine hl_y rfl rfl rfl (y_move rfl rfl) ?_
              refine hl_y rfl rfl rfl (y_lenE (kl.length) rfl rfl S22 rfl (rdF hk) (by first | rfl | (simp only [ls_len, ns_len, List.length_append, List.length_take, List.length_drop, List.length_replicate, List.length_cons, List.length_nil, putL_len, shaL_len, overL_len, macKey_len, hmacL_len, tgL_len, outN_len, expN_len, infoL_len, derL_len]; done) | (simp only [ls_len, ns_len, List.length_append, List.length_take, List.length_drop, List.length_replicate, List.length_cons, List.length_nil, putL_len, shaL_len, overL_len, macKey_len, hmacL_len, tgL_len, outN_len, expN_len, infoL_len, derL_len]; omega))) ?_
              refine hl_y rfl rfl rfl (y_as (y_gtrn (q := 200) rfl rfl rfl ) (congrArg Value.bool (decide_eq_false (by omega)))) ?_
              refine hl_y rfl rfl rfl (y_move rfl rfl) ?_
              refine hl_yg 3 18 false rfl rfl rfl rfl rfl (y_move rfl rfl) ?_
              refine hl_yg 3 18 false rfl rfl rfl rfl rfl (y_lenE (il.length) rfl rfl S22 rfl (rdF hi) (by first | rfl | (simp only [ls_len, ns_len, List.length_append, List.length_take, List.length_drop, List.length_replicate, List.length_cons, List.length_nil, putL_len, shaL_len, overL_len, macKey_len, hmacL_len, tgL_len, outN_len, expN_len, infoL_len, derL_len]; done) | (simp only [ls_len, ns_len, List.length_append, List.length_take, List.length_drop, List.length_replicate, List.length_cons, List.length_nil, putL_len, shaL_len, overL_len, macKey_len, hmacL_len, tgL_len, outN_len, expN_len, infoL_len, derL_len]; omega))) ?_
              refine hl_yg 3 18 false rfl rfl rfl rfl rfl (y_as (y_gtrn (q := 200) rfl rfl rfl ) (congrArg Value.bool (decide_eq_false (by omega)))) ?_
              refine hl_y rfl rfl rfl (y_pick (b := false) rfl rfl rfl) ?_
              refine hl_y rfl rfl rfl (y_move rfl rfl) ?_
              refine hl_yg 8 23 false rfl rfl rfl rfl rfl (y_move rfl rfl) ?_
              refine hl_yg 8 23 false rfl rfl rfl rfl rfl (y_as (y_lssn (q := 1) rfl rfl rfl ) (congrArg Value.bool (decide_eq_false (by omega)))) ?_
              refine hl_y rfl rfl rfl (y_pick (b := false) rfl rfl rfl) ?_
              refine hl_y rfl rfl rfl (y_move rfl rfl) ?_
              refine hl_yg 12 27 false rfl rfl rfl rfl rfl (y_move rfl rfl) ?_
              refine hl_yg 12 27 false rfl rfl rfl rfl rfl (y_as (y_gtrn (q := 100) rfl rfl rfl ) (congrArg Value.bool (decide_eq_false (by omega)))) ?_
              refine hl_y rfl rfl rfl (y_pick (b := false) rfl rfl rfl) ?_
              refine hl_y rfl rfl rfl (y_move rfl rfl) ?_
              refine hl_yg 16 31 false rfl rfl rfl rfl rfl (y_move rfl rfl) ?_
              refine hl_yg 16 31 false rfl rfl rfl rfl rfl (y_as (y_lssn (q := 0) rfl rfl rfl ) (congrArg Value.bool (decide_eq_false (by omega)))) ?_
              refine hl_y rfl rfl rfl (y_pick (b := false) rfl rfl rfl) ?_
              refine hl_y rfl rfl rfl (y_move rfl rfl) ?_
              refine hl_yg 20 35 false rfl rfl rfl rfl rfl (y_move rfl rfl) ?_
              refine hl_yg 20 35 false rfl rfl rfl rfl rfl (y_as (y_gtrn (q := 100) rfl rfl rfl ) (congrArg Value.bool (decide_eq_false (by omega)))) ?_
              refine hl_y rfl rfl rfl (y_pick (b := false) rfl rfl rfl) ?_
              refine hl_y rfl rfl rfl (y_move rfl rfl) ?_
              refine hl_yg 24 39 false rfl rfl rfl rfl rfl (y_move rfl rfl) ?_
              refine hl_yg 24 39 false rfl rfl rfl rfl rfl (y_lent rfl rfl U9 rfl) ?_
              refine hl_yg 24 39 false rfl rfl rfl rfl rfl (y_as (y_gtrn (q := 100) rfl rfl rfl ) (congrArg Value.bool (decide_eq_true (by omega)))) ?_
              refine hl_y rfl rfl rfl (y_pick (b := false) rfl rfl rfl) ?_
              refine hl_nil ?_
              refine hq_then ?_
              refine hc_ifT rfl ?_
              refine hc_seq ?_
              refine hc_region ?_
              refine hl_i rfl rfl rfl (e_call0 rfl F47 rfl (fun w hw => law09_alive_ct w (hkl.below (Mm.out hw).low)) rfl) ?_; intro _
              refine hl_y rfl rfl rfl (y_assign rfl rfl) ?_
              refine hl_nil ?_
              refine hq_then ?_
              refine hc_ret ?_
              exact hq_then_ret (hq_ret1 (()) rfl (rv_tmp rfl) rfl (fun _ h => Mm.pick h [] (by simp)))
            · skip
              refine hc_region ?_
              refine hl_y rfl rfl rfl (y_move rfl rfl) ?_
              refine hl_y rfl rfl rfl (y_lenE (kl.length) rfl rfl S22 rfl (rdF hk) (by first | rfl | (simp only [ls_len, ns_len, List.length_append, List.length_take, List.length_drop, List.length_replicate, List.length_cons, List.length_nil, putL_len, shaL_len, overL_len, macKey_len, hmacL_len, tgL_len, outN_len, expN_len, infoL_len, derL_len]; done) | (simp only [ls_len, ns_len, List.length_append, List.length_take, List.length_drop, List.length_replicate, List.length_cons, List.length_nil, putL_len, shaL_len, overL_len, macKey_len, hmacL_len, tgL_len, outN_len, expN_len, infoL_len, derL_len]; omega))) ?_
              refine hl_y rfl rfl rfl (y_as (y_gtrn (q := 200) rfl rfl rfl ) (congrArg Value.bool (decide_eq_false (by omega)))) ?_
              refine hl_y rfl rfl rfl (y_move rfl rfl) ?_
              refine hl_yg 3 18 false rfl rfl rfl rfl rfl (y_move rfl rfl) ?_
              refine hl_yg 3 18 false rfl rfl rfl rfl rfl (y_lenE (il.length) rfl rfl S22 rfl (rdF hi) (by first | rfl | (simp only [ls_len, ns_len, List.length_append, List.length_take, List.length_drop, List.length_replicate, List.length_cons, List.length_nil, putL_len, shaL_len, overL_len, macKey_len, hmacL_len, tgL_len, outN_len, expN_len, infoL_len, derL_len]; done) | (simp only [ls_len, ns_len, List.length_append, List.length_take, List.length_drop, List.length_replicate, List.length_cons, List.length_nil, putL_len, shaL_len, overL_len, macKey_len, hmacL_len, tgL_len, outN_len, expN_len, infoL_len, derL_len]; omega))) ?_
              refine hl_yg 3 18 false rfl rfl rfl rfl rfl (y_as (y_gtrn (q := 200) rfl rfl rfl ) (congrArg Value.bool (decide_eq_false (by omega)))) ?_
              refine hl_y rfl rfl rfl (y_pick (b := false) rfl rfl rfl) ?_
              refine hl_y rfl rfl rfl (y_move rfl rfl) ?_
              refine hl_yg 8 23 false rfl rfl rfl rfl rfl (y_move rfl rfl) ?_
              refine hl_yg 8 23 false rfl rfl rfl rfl rfl (y_as (y_lssn (q := 1) rfl rfl rfl ) (congrArg Value.bool (decide_eq_false (by omega)))) ?_
              refine hl_y rfl rfl rfl (y_pick (b := false) rfl rfl rfl) ?_
              refine hl_y rfl rfl rfl (y_move rfl rfl) ?_
              refine hl_yg 12 27 false rfl rfl rfl rfl rfl (y_move rfl rfl) ?_
              refine hl_yg 12 27 false rfl rfl rfl rfl rfl (y_as (y_gtrn (q := 100) rfl rfl rfl ) (congrArg Value.bool (decide_eq_false (by omega)))) ?_
              refine hl_y rfl rfl rfl (y_pick (b := false) rfl rfl rfl) ?_
              refine hl_y rfl rfl rfl (y_move rfl rfl) ?_
              refine hl_yg 16 31 false rfl rfl rfl rfl rfl (y_move rfl rfl) ?_
              refine hl_yg 16 31 false rfl rfl rfl rfl rfl (y_as (y_lssn (q := 0) rfl rfl rfl ) (congrArg Value.bool (decide_eq_false (by omega)))) ?_
              refine hl_y rfl rfl rfl (y_pick (b := false) rfl rfl rfl) ?_
              refine hl_y rfl rfl rfl (y_move rfl rfl) ?_
              refine hl_yg 20 35 false rfl rfl rfl rfl rfl (y_move rfl rfl) ?_
              refine hl_yg 20 35 false rfl rfl rfl rfl rfl (y_as (y_gtrn (q := 100) rfl rfl rfl ) (congrArg Value.bool (decide_eq_false (by omega)))) ?_
              refine hl_y rfl rfl rfl (y_pick (b := false) rfl rfl rfl) ?_
              refine hl_y rfl rfl rfl (y_move rfl rfl) ?_
              refine hl_yg 24 39 false rfl rfl rfl rfl rfl (y_move rfl rfl) ?_
              refine hl_yg 24 39 false rfl rfl rfl rfl rfl (y_lent rfl rfl U9 rfl) ?_
              refine hl_yg 24 39 false rfl rfl rfl rfl rfl (y_as (y_gtrn (q := 100) rfl rfl rfl ) (congrArg Value.bool (decide_eq_false (by omega)))) ?_
              refine hl_y rfl rfl rfl (y_pick (b := false) rfl rfl rfl) ?_
              refine hl_nil ?_
              refine hq_then ?_
              refine hc_ifF rfl ?_
              refine hc_skip ?_
              refine hq_then ?_
              refine hc_seq ?_
              refine hc_region ?_
              refine hl_y rfl rfl rfl (y_move rfl rfl) ?_
              refine hl_y rfl rfl rfl (y_move rfl rfl) ?_
              refine hl_y rfl rfl rfl (y_move rfl rfl) ?_
              refine hl_i rfl rfl rfl (e_call rfl F48 rfl (fun w hw => kdf_Expand_ok kl _ il _ n (by omega) (by omega) w ((rdF hk) w hw) (by first | omega | (simp only [List.length_append, List.length_take, List.length_drop, List.length_replicate, List.length_cons, List.length_nil, putL_len, shaL_len, overL_len, macKey_len, hmacL_len, tgL_len, outN_len, expN_len, infoL_len, derL_len]; omega) | (simp only [List.length_append, List.length_take, List.length_drop, List.length_replicate, List.length_cons, List.length_nil, putL_len, shaL_len, overL_len, macKey_len, hmacL_len, tgL_len, outN_len, expN_len, infoL_len, derL_len] at *; omega)) ((rdF hi) w hw) (by first | omega | (simp only [List.length_append, List.length_take, List.length_drop, List.length_replicate, List.length_cons, List.length_nil, putL_len, shaL_len, overL_len, macKey_len, hmacL_len, tgL_len, outN_len, expN_len, infoL_len, derL_len]; omega) | (simp only [List.length_append, List.length_take, List.length_drop, List.length_replicate, List.length_cons, List.length_nil, putL_len, shaL_len, overL_len, macKey_len, hmacL_len, tgL_len, outN_len, expN_len, infoL_len, derL_len] at *; omega)) (hkl.below (Mm.out hw).low)) rfl) ?_; intro y49
              refine hl_y rfl rfl rfl (y_move rfl rfl) ?_
              refine hl_y rfl rfl rfl (y_extract rfl rfl rfl) ?_
              refine hl_y rfl rfl rfl (y_extract rfl rfl rfl) ?_
              refine hl_y rfl rfl rfl (y_assign rfl rfl) ?_
              refine hl_y rfl rfl rfl (y_assign rfl rfl) ?_
              refine hl_nil ?_
              refine hq_then ?_
              refine hc_seq ?_
              refine hc_region ?_
              refine hl_y rfl rfl rfl (y_move rfl rfl) ?_
              refine hl_y rfl rfl rfl (y_move rfl rfl) ?_
              refine hl_y rfl rfl rfl (y_move rfl rfl) ?_
              refine hl_y rfl rfl rfl (y_move rfl rfl) ?_
              refine hl_y rfl rfl rfl (y_addn rfl rfl rfl (by first | omega | (simp only [ls_len, ns_len, List.length_append, List.length_take, List.length_drop, List.length_replicate, List.length_cons, List.length_nil, putL_len, shaL_len, overL_len, macKey_len, hmacL_len, tgL_len, outN_len, expN_len, infoL_len, derL_len]; omega) | (simp only [ls_len, ns_len, List.length_append, List.length_take, List.length_drop, List.length_replicate, List.length_cons, List.length_nil, putL_len, shaL_len, overL_len, macKey_len, hmacL_len, tgL_len, outN_len, expN_len, infoL_len, derL_len] at *; omega))) ?_
              refine hl_i rfl rfl rfl (e_call rfl F48 rfl (fun w hw => kdf_Expand_ok kl _ il _ (n + m) (by omega) (by omega) w ((rdF hk) w hw) (by first | omega | (simp only [List.length_append, List.length_take, List.length_drop, List.length_replicate, List.length_cons, List.length_nil, putL_len, shaL_len, overL_len, macKey_len, hmacL_len, tgL_len, outN_len, expN_len, infoL_len, derL_len]; omega) | (simp only [List.length_append, List.length_take, List.length_drop, List.length_replicate, List.length_cons, List.length_nil, putL_len, shaL_len, overL_len, macKey_len, hmacL_len, tgL_len, outN_len, expN_len, infoL_len, derL_len] at *; omega)) ((rdF hi) w hw) (by first | omega | (simp only [List.length_append, List.length_take, List.length_drop, List.length_replicate, List.length_cons, List.length_nil, putL_len, shaL_len, overL_len, macKey_len, hmacL_len, tgL_len, outN_len, expN_len, infoL_len, derL_len]; omega) | (simp only [List.length_append, List.length_take, List.length_drop, List.length_replicate, List.length_cons, List.length_nil, putL_len, shaL_len, overL_len, macKey_len, hmacL_len, tgL_len, outN_len, expN_len, infoL_len, derL_len] at *; omega)) (hkl.below (Mm.out hw).low)) rfl) ?_; intro y58
              refine hl_y rfl rfl rfl (y_move rfl rfl) ?_
              refine hl_y rfl rfl rfl (y_extract rfl rfl rfl) ?_
              refine hl_y rfl rfl rfl (y_extract rfl rfl rfl) ?_
              refine hl_y rfl rfl rfl (y_assign rfl rfl) ?_
              refine hl_y rfl rfl rfl (y_assign rfl rfl) ?_
              refine hl_nil ?_
              refine hq_then ?_
              refine hc_seq ?_
              refine hc_seq ?_
              refine hc_region ?_
              refine hl_y rfl rfl rfl (y_move rfl rfl) ?_
              refine hl_y rfl rfl rfl (y_as (y_neqn (q := 0) rfl rfl rfl ) (congrArg Value.bool (decide_eq_false (by omega)))) ?_
              refine hl_y rfl rfl rfl (y_move rfl rfl) ?_
              refine hl_yg 2 63 false rfl rfl rfl rfl rfl (y_move rfl rfl) ?_
              refine hl_yg 2 63 false rfl rfl rfl rfl rfl (y_as (y_neqn (q := 0) rfl rfl rfl ) (congrArg Value.bool (decide_eq_false (by omega)))) ?_
              refine hl_y rfl rfl rfl (y_pick (b := false) rfl rfl rfl) ?_
              refine hl_y rfl rfl rfl (y_move rfl rfl) ?_
              refine hl_yg 6 67 false rfl rfl rfl rfl rfl (y_move rfl rfl) ?_
              refine hl_yg 6 67 false rfl rfl rfl rfl rfl (y_lenE (n) rfl rfl S22 rfl ((rdX3 1 rfl)) (by first | rfl | (simp only [ls_len, ns_len, List.length_append, List.length_take, List.length_drop, List.length_replicate, List.length_cons, List.length_nil, putL_len, shaL_len, overL_len, macKey_len, hmacL_len, tgL_len, outN_len, expN_len, infoL_len, derL_len]; done) | (simp only [ls_len, ns_len, List.length_append, List.length_take, List.length_drop, List.length_replicate, List.length_cons, List.length_nil, putL_len, shaL_len, overL_len, macKey_len, hmacL_len, tgL_len, outN_len, expN_len, infoL_len, derL_len]; omega))) ?_
              refine hl_yg 6 67 false rfl rfl rfl rfl rfl (y_move rfl rfl) ?_
              refine hl_yg 6 67 false rfl rfl rfl rfl rfl (y_as (y_neqn rfl rfl rfl ) (congrArg Value.bool (decide_eq_false (by omega)))) ?_
              refine hl_y rfl rfl rfl (y_pick (b := false) rfl rfl rfl) ?_
              refine hl_y rfl rfl rfl (y_move rfl rfl) ?_
              refine hl_yg 12 73 false rfl rfl rfl rfl rfl (y_move rfl rfl) ?_
              refine hl_yg 12 73 false rfl rfl rfl rfl rfl (y_lenE ((n + m)) rfl rfl S22 rfl ((rdX3 0 rfl)) (by first | rfl | (simp only [ls_len, ns_len, List.length_append, List.length_take, List.length_drop, List.length_replicate, List.length_cons, List.length_nil, putL_len, shaL_len, overL_len, macKey_len, hmacL_len, tgL_len, outN_len, expN_len, infoL_len, derL_len]; done) | (simp only [ls_len, ns_len, List.length_append, List.length_take, List.length_drop, List.length_replicate, List.length_cons, List.length_nil, putL_len, shaL_len, overL_len, macKey_len, hmacL_len, tgL_len, outN_len, expN_len, infoL_len, derL_len]; omega))) ?_
              refine hl_yg 12 73 false rfl rfl rfl rfl rfl (y_move rfl rfl) ?_
              refine hl_yg 12 73 false rfl rfl rfl rfl rfl (y_move rfl rfl) ?_
              refine hl_yg 12 73 false rfl rfl rfl rfl rfl (y_addn rfl rfl rfl (by first | omega | (simp only [ls_len, ns_len, List.length_append, List.length_take, List.length_drop, List.length_replicate, List.length_cons, List.length_nil, putL_len, shaL_len, overL_len, macKey_len, hmacL_len, tgL_len, outN_len, expN_len, infoL_len, derL_len]; omega) | (simp only [ls_len, ns_len, List.length_append, List.length_take, List.length_drop, List.length_replicate, List.length_cons, List.length_nil, putL_len, shaL_len, overL_len, macKey_len, hmacL_len, tgL_len, outN_len, expN_len, infoL_len, derL_len] at *; omega))) ?_
              refine hl_yg 12 73 false rfl rfl rfl rfl rfl (y_as (y_neqn rfl rfl rfl ) (congrArg Value.bool (decide_eq_false (by omega)))) ?_
              refine hl_y rfl rfl rfl (y_pick (b := false) rfl rfl rfl) ?_
              refine hl_y rfl rfl rfl (y_move rfl rfl) ?_
              refine hl_yg 20 81 false rfl rfl rfl rfl rfl (y_move rfl rfl) ?_
              refine hl_yg 20 81 false rfl rfl rfl rfl rfl (y_move rfl rfl) ?_
              refine hl_yg 20 81 false rfl rfl rfl rfl rfl (y_move rfl rfl) ?_
              refine hl_yg 20 81 false rfl rfl rfl rfl rfl (y_slc0 rfl S22 rfl ((rdX3 0 rfl)) rfl (by first | omega | (simp only [ls_len, ns_len, List.length_append, List.length_take, List.length_drop, List.length_replicate, List.length_cons, List.length_nil, putL_len, shaL_len, overL_len, macKey_len, hmacL_len, tgL_len, outN_len, expN_len, infoL_len, derL_len]; omega) | (simp only [ls_len, ns_len, List.length_append, List.length_take, List.length_drop, List.length_replicate, List.length_cons, List.length_nil, putL_len, shaL_len, overL_len, macKey_len, hmacL_len, tgL_len, outN_len, expN_len, infoL_len, derL_len] at *; omega))) ?_
              refine hl_ig 20 81 false rfl rfl rfl rfl rfl (e_call0 rfl F19 rfl (fun w hw => r01_Same_t _ _ _ _ w (((rdX3 1 rfl)) w hw) (((rdQ0 ((rdX3 0 rfl)) (n := n) (by first | omega | (simp only [ls_len, ns_len, List.length_append, List.length_take, List.length_drop, List.length_replicate, List.length_cons, List.length_nil, putL_len, shaL_len, overL_len, macKey_len, hmacL_len, tgL_len, outN_len, expN_len, infoL_len, derL_len]; omega) | (simp only [ls_len, ns_len, List.length_append, List.length_take, List.length_drop, List.length_replicate, List.length_cons, List.length_nil, putL_len, shaL_len, overL_len, macKey_len, hmacL_len, tgL_len, outN_len, expN_len, infoL_len, derL_len] at *; omega)))) w hw) (by first | omega | (simp only [List.length_append, List.length_take, List.length_drop, List.length_replicate, List.length_cons, List.length_nil, putL_len, shaL_len, overL_len, macKey_len, hmacL_len, tgL_len, outN_len, expN_len, infoL_len, derL_len]; omega) | (simp only [List.length_append, List.length_take, List.length_drop, List.length_replicate, List.length_cons, List.length_nil, putL_len, shaL_len, overL_len, macKey_len, hmacL_len, tgL_len, outN_len, expN_len, infoL_len, derL_len] at *; omega)) ((exp_fewer kl il n m).symm)) rfl) ?_; intro _
              refine hl_yg 20 81 false rfl rfl rfl rfl rfl (y_not rfl rfl) ?_
              refine hl_y rfl rfl rfl (y_pick (b := false) rfl rfl rfl) ?_
              refine hl_nil ?_
              refine hq_then ?_
              refine hc_ifF rfl ?_
              refine hc_skip ?_
              refine hq_then ?_
              refine hc_seq ?_
              refine hc_region ?_
              refine hl_y rfl rfl rfl (y_move rfl rfl) ?_
              refine hl_y rfl rfl rfl (y_move rfl rfl) ?_
              refine hl_i rfl rfl rfl (e_call rfl F51 rfl (fun w hw => kdf_Chain_ct kl _ sl ((2 : Nat) : Int) 2 (by decide) w ((rdF hk) w hw) (by first | omega | (simp only [List.length_append, List.length_take, List.length_drop, List.length_replicate, List.length_cons, List.length_nil, putL_len, shaL_len, overL_len, macKey_len, hmacL_len, tgL_len, outN_len, expN_len, infoL_len, derL_len]; omega) | (simp only [List.length_append, List.length_take, List.length_drop, List.length_replicate, List.length_cons, List.length_nil, putL_len, shaL_len, overL_len, macKey_len, hmacL_len, tgL_len, outN_len, expN_len, infoL_len, derL_len] at *; omega)) (by first | omega | decide | (simp; omega)) (hkl.below (Mm.out hw).low)) rfl) ?_; intro y91
              refine hl_y rfl rfl rfl (y_move rfl rfl) ?_
              refine hl_i rfl rfl rfl (e_call rfl F51 rfl (fun w hw => kdf_Chain_ct (chL kl sl 2) _ sl ((1 : Nat) : Int) 1 (by decide) w (((rdC 0 rfl y91.2)) w hw) (chL_le _ _ _ (by omega)) (by omega) (hkl.below (Mm.out hw).low)) rfl) ?_; intro y93
              refine hl_y rfl rfl rfl (y_move rfl rfl) ?_
              refine hl_y rfl rfl rfl (y_move rfl rfl) ?_
              refine hl_i rfl rfl rfl (e_call rfl F51 rfl (fun w hw => kdf_Chain_ct kl _ sl ((3 : Nat) : Int) 3 (by decide) w ((rdF hk) w hw) (by first | omega | (simp only [List.length_append, List.length_take, List.length_drop, List.length_replicate, List.length_cons, List.length_nil, putL_len, shaL_len, overL_len, macKey_len, hmacL_len, tgL_len, outN_len, expN_len, infoL_len, derL_len]; omega) | (simp only [List.length_append, List.length_take, List.length_drop, List.length_replicate, List.length_cons, List.length_nil, putL_len, shaL_len, overL_len, macKey_len, hmacL_len, tgL_len, outN_len, expN_len, infoL_len, derL_len] at *; omega)) (by first | omega | decide | (simp; omega)) (hkl.below (Mm.out hw).low)) rfl) ?_; intro y96
              refine hl_i rfl rfl rfl (e_call0 rfl F19 rfl (fun w hw => r01_Same_t _ _ _ _ w (((rdC 1 rfl y93.2)) w hw) (((rdC 0 rfl y96.2)) w hw) (Nat.le_trans (chL_le _ _ _ (chL_le _ _ _ (by omega))) (by decide)) (rfl)) rfl) ?_; intro _
              refine hl_y rfl rfl rfl (y_move rfl rfl) ?_
              refine hl_ig 9 98 true rfl rfl rfl rfl rfl (e_call0 rfl F47 rfl (fun w hw => law09_alive_ct w (hkl.below (Mm.out hw).low)) rfl) ?_; intro _
              refine hl_y rfl rfl rfl (y_pick (b := true) rfl rfl rfl) ?_
              refine hl_y rfl rfl rfl (y_assign rfl rfl) ?_
              refine hl_nil ?_
              refine hq_then ?_
              refine hc_ret ?_
              exact hq_ret1 (()) rfl (rv_tmp rfl) rfl (fun _ h => Mm.pick h [] (by simp))

set_option maxHeartbeats 1000000 in
theorem kdfFewer_pn (kl : List UInt8) (kv : Value) (il : List UInt8) (iv : Value) (sl : List UInt8) (n : Nat) (hn : n ≤ 9223372036854775807) (m : Int) (hb : -9223372036854775808 ≤ m) (hm : m < 0) (w : World) (hk : Rd w kv (ls vb kl)) (mk : kl.length ≤ 9223372036854775807) (hi : Rd w iv (ls vb il)) (mi : il.length ≤ 9223372036854775807) (ms : sl.length ≤ 9223372036854775807) (hkl : KL w) : Ct0 Tryd.prog 13 #[kv, iv, vi n, .int .i64 m, vs sl] w (.bool true) := by
  refine ct0_of Tryd.func13 rfl Tryd.ntmps13 rfl ?_
  refine hc_seq ?_
  refine hc_region ?_
  refine hl_y rfl rfl rfl (y_assign rfl rfl) ?_
  refine hl_nil ?_
  refine hq_then ?_
  refine hc_seq ?_
  refine hc_seq ?_
  rcases Decidable.em (200 < kl.length) with k0 | k0
  · skip
    refine hc_region ?_
    refine hl_y rfl rfl rfl (y_move rfl rfl) ?_
    refine hl_y rfl rfl rfl (y_lenE (kl.length) rfl rfl S22 rfl (rdF hk) (by first | rfl | (simp only [ls_len, ns_len, List.length_append, List.length_take, List.length_drop, List.length_replicate, List.length_cons, List.length_nil, putL_len, shaL_len, overL_len, macKey_len, hmacL_len, tgL_len, outN_len, expN_len, infoL_len, derL_len]; done) | (simp only [ls_len, ns_len, List.length_append, List.length_take, List.length_drop, List.length_replicate, List.length_cons, List.length_nil, putL_len, shaL_len, overL_len, macKey_len, hmacL_len, tgL_len, outN_len, expN_len, infoL_len, derL_len]; omega))) ?_
    refine hl_y rfl rfl rfl (y_as (y_gtrn (q := 200) rfl rfl rfl ) (congrArg Value.bool (decide_eq_true (by omega)))) ?_
    refine hl_y rfl rfl rfl (y_move rfl rfl) ?_
    refine hl_no 3 18 false true rfl rfl rfl rfl rfl rfl ?_
    refine hl_no 3 18 false true rfl rfl rfl rfl rfl rfl ?_
    refine hl_no 3 18 false true rfl rfl rfl rfl rfl rfl ?_
    refine hl_y rfl rfl rfl (y_pick (b := true) rfl rfl rfl) ?_
    refine hl_y rfl rfl rfl (y_move rfl rfl) ?_
    refine hl_no 8 23 false true rfl rfl rfl rfl rfl rfl ?_
    refine hl_no 8 23 false true rfl rfl rfl rfl rfl rfl ?_
    refine hl_y rfl rfl rfl (y_pick (b := true) rfl rfl rfl) ?_
    refine hl_y rfl rfl rfl (y_move rfl rfl) ?_
    refine hl_no 12 27 false true rfl rfl rfl rfl rfl rfl ?_
    refine hl_no 12 27 false true rfl rfl rfl rfl rfl rfl ?_
    refine hl_y rfl rfl rfl (y_pick (b := true) rfl rfl rfl) ?_
    refine hl_y rfl rfl rfl (y_move rfl rfl) ?_
    refine hl_no 16 31 false true rfl rfl rfl rfl rfl rfl ?_
    refine hl_no 16 31 false true rfl rfl rfl rfl rfl rfl ?_
    refine hl_y rfl rfl rfl (y_pick (b := true) rfl rfl rfl) ?_
    refine hl_y rfl rfl rfl (y_move rfl rfl) ?_
    refine hl_no 20 35 false true rfl rfl rfl rfl rfl rfl ?_
    refine hl_no 20 35 false true rfl rfl rfl rfl rfl rfl ?_
    refine hl_y rfl rfl rfl (y_pick (b := true) rfl rfl rfl) ?_
    refine hl_y rfl rfl rfl (y_move rfl rfl) ?_
    refine hl_no 24 39 false true rfl rfl rfl rfl rfl rfl ?_
    refine hl_no 24 39 false true rfl rfl rfl rfl rfl rfl ?_
    refine hl_no 24 39 false true rfl rfl rfl rfl rfl rfl ?_
    refine hl_y rfl rfl rfl (y_pick (b := true) rfl rfl rfl) ?_
    refine hl_nil ?_
    refine hq_then ?_
    refine hc_ifT rfl ?_
    refine hc_seq ?_
    refine hc_region ?_
    refine hl_i rfl rfl rfl (e_call0 rfl F47 rfl (fun w hw => law09_alive_ct w (hkl.below (Mm.out hw).low)) rfl) ?_; intro _
    refine hl_y rfl rfl rfl (y_assign rfl rfl) ?_
    refine hl_nil ?_
    refine hq_then ?_
    refine hc_ret ?_
    exact hq_then_ret (hq_ret1 (()) rfl (rv_tmp rfl) rfl (fun _ h => Mm.pick h [] (by simp)))
  · skip
    rcases Decidable.em (200 < il.length) with k1 | k1
    · skip
      refine hc_region ?_
      refine hl_y rfl rfl rfl (y_move rfl rfl) ?_
      refine hl_y rfl rfl rfl (y_lenE (kl.length) rfl rfl S22 rfl (rdF hk) (by first | rfl | (simp only [ls_len, ns_len, List.length_append, List.length_take, List.length_drop, List.length_replicate, List.length_cons, List.length_nil, putL_len, shaL_len, overL_len, macKey_len, hmacL_len, tgL_len, outN_len, expN_len, infoL_len, derL_len]; done) | (simp only [ls_len, ns_len, List.length_append, List.length_take, List.length_drop, List.length_replicate, List.length_cons, List.length_nil, putL_len, shaL_len, overL_len, macKey_len, hmacL_len, tgL_len, outN_len, expN_len, infoL_len, derL_len]; omega))) ?_
      refine hl_y rfl rfl rfl (y_as (y_gtrn (q := 200) rfl rfl rfl ) (congrArg Value.bool (decide_eq_false (by omega)))) ?_
      refine hl_y rfl rfl rfl (y_move rfl rfl) ?_
      refine hl_yg 3 18 false rfl rfl rfl rfl rfl (y_move rfl rfl) ?_
      refine hl_yg 3 18 false rfl rfl rfl rfl rfl (y_lenE (il.length) rfl rfl S22 rfl (rdF hi) (by first | rfl | (simp only [ls_len, ns_len, List.length_append, List.length_take, List.length_drop, List.length_replicate, List.length_cons, List.length_nil, putL_len, shaL_len, overL_len, macKey_len, hmacL_len, tgL_len, outN_len, expN_len, infoL_len, derL_len]; done) | (simp only [ls_len, ns_len, List.length_append, List.length_take, List.length_drop, List.length_replicate, List.length_cons, List.length_nil, putL_len, shaL_len, overL_len, macKey_len, hmacL_len, tgL_len, outN_len, expN_len, infoL_len, derL_len]; omega))) ?_
      refine hl_yg 3 18 false rfl rfl rfl rfl rfl (y_as (y_gtrn (q := 200) rfl rfl rfl ) (congrArg Value.bool (decide_eq_true (by omega)))) ?_
      refine hl_y rfl rfl rfl (y_pick (b := false) rfl rfl rfl) ?_
      refine hl_y rfl rfl rfl (y_move rfl rfl) ?_
      refine hl_no 8 23 false true rfl rfl rfl rfl rfl rfl ?_
      refine hl_no 8 23 false true rfl rfl rfl rfl rfl rfl ?_
      refine hl_y rfl rfl rfl (y_pick (b := true) rfl rfl rfl) ?_
      refine hl_y rfl rfl rfl (y_move rfl rfl) ?_
      refine hl_no 12 27 false true rfl rfl rfl rfl rfl rfl ?_
      refine hl_no 12 27 false true rfl rfl rfl rfl rfl rfl ?_
      refine hl_y rfl rfl rfl (y_pick (b := true) rfl rfl rfl) ?_
      refine hl_y rfl rfl rfl (y_move rfl rfl) ?_
      refine hl_no 16 31 false true rfl rfl rfl rfl rfl rfl ?_
      refine hl_no 16 31 false true rfl rfl rfl rfl rfl rfl ?_
      refine hl_y rfl rfl rfl (y_pick (b := true) rfl rfl rfl) ?_
      refine hl_y rfl rfl rfl (y_move rfl rfl) ?_
      refine hl_no 20 35 false true rfl rfl rfl rfl rfl rfl ?_
      refine hl_no 20 35 false true rfl rfl rfl rfl rfl rfl ?_
      refine hl_y rfl rfl rfl (y_pick (b := true) rfl rfl rfl) ?_
      refine hl_y rfl rfl rfl (y_move rfl rfl) ?_
      refine hl_no 24 39 false true rfl rfl rfl rfl rfl rfl ?_
      refine hl_no 24 39 false true rfl rfl rfl rfl rfl rfl ?_
      refine hl_no 24 39 false true rfl rfl rfl rfl rfl rfl ?_
      refine hl_y rfl rfl rfl (y_pick (b := true) rfl rfl rfl) ?_
      refine hl_nil ?_
      refine hq_then ?_
      refine hc_ifT rfl ?_
      refine hc_seq ?_
      refine hc_region ?_
      refine hl_i rfl rfl rfl (e_call0 rfl F47 rfl (fun w hw => law09_alive_ct w (hkl.below (Mm.out hw).low)) rfl) ?_; intro _
      refine hl_y rfl rfl rfl (y_assign rfl rfl) ?_
      refine hl_nil ?_
      refine hq_then ?_
      refine hc_ret ?_
      exact hq_then_ret (hq_ret1 (()) rfl (rv_tmp rfl) rfl (fun _ h => Mm.pick h [] (by simp)))
    · skip
      rcases Decidable.em (n < 1) with k2 | k2
      · skip
        refine hc_region ?_
        refine hl_y rfl rfl rfl (y_move rfl rfl) ?_
        refine hl_y rfl rfl rfl (y_lenE (kl.length) rfl rfl S22 rfl (rdF hk) (by first | rfl | (simp only [ls_len, ns_len, List.length_append, List.length_take, List.length_drop, List.length_replicate, List.length_cons, List.length_nil, putL_len, shaL_len, overL_len, macKey_len, hmacL_len, tgL_len, outN_len, expN_len, infoL_len, derL_len]; done) | (simp only [ls_len, ns_len, List.length_append, List.length_take, List.length_drop, List.length_replicate, List.length_cons, List.length_nil, putL_len, shaL_len, overL_len, macKey_len, hmacL_len, tgL_len, outN_len, expN_len, infoL_len, derL_len]; omega))) ?_
        refine hl_y rfl rfl rfl (y_as (y_gtrn (q := 200) rfl rfl rfl ) (congrArg Value.bool (decide_eq_false (by omega)))) ?_
        refine hl_y rfl rfl rfl (y_move rfl rfl) ?_
        refine hl_yg 3 18 false rfl rfl rfl rfl rfl (y_move rfl rfl) ?_
        refine hl_yg 3 18 false rfl rfl rfl rfl rfl (y_lenE (il.length) rfl rfl S22 rfl (rdF hi) (by first | rfl | (simp only [ls_len, ns_len, List.length_append, List.length_take, List.length_drop, List.length_replicate, List.length_cons, List.length_nil, putL_len, shaL_len, overL_len, macKey_len, hmacL_len, tgL_len, outN_len, expN_len, infoL_len, derL_len]; done) | (simp only [ls_len, ns_len, List.length_append, List.length_take, List.length_drop, List.length_replicate, List.length_cons, List.length_nil, putL_len, shaL_len, overL_len, macKey_len, hmacL_len, tgL_len, outN_len, expN_len, infoL_len, derL_len]; omega))) ?_
        refine hl_yg 3 18 false rfl rfl rfl rfl rfl (y_as (y_gtrn (q := 200) rfl rfl rfl ) (congrArg Value.bool (decide_eq_false (by omega)))) ?_
        refine hl_y rfl rfl rfl (y_pick (b := false) rfl rfl rfl) ?_
        refine hl_y rfl rfl rfl (y_move rfl rfl) ?_
        refine hl_yg 8 23 false rfl rfl rfl rfl rfl (y_move rfl rfl) ?_
        refine hl_yg 8 23 false rfl rfl rfl rfl rfl (y_as (y_lssn (q := 1) rfl rfl rfl ) (congrArg Value.bool (decide_eq_true (by omega)))) ?_
        refine hl_y rfl rfl rfl (y_pick (b := false) rfl rfl rfl) ?_
        refine hl_y rfl rfl rfl (y_move rfl rfl) ?_
        refine hl_no 12 27 false true rfl rfl rfl rfl rfl rfl ?_
        refine hl_no 12 27 false true rfl rfl rfl rfl rfl rfl ?_
        refine hl_y rfl rfl rfl (y_pick (b := true) rfl rfl rfl) ?_
        refine hl_y rfl rfl rfl (y_move rfl rfl) ?_
        refine hl_no 16 31 false true rfl rfl rfl rfl rfl rfl ?_
        refine hl_no 16 31 false true rfl rfl rfl rfl rfl rfl ?_
        refine hl_y rfl rfl rfl (y_pick (b := true) rfl rfl rfl) ?_
        refine hl_y rfl rfl rfl (y_move rfl rfl) ?_
        refine hl_no 20 35 false true rfl rfl rfl rfl rfl rfl ?_
        refine hl_no 20 35 false true rfl rfl rfl rfl rfl rfl ?_
        refine hl_y rfl rfl rfl (y_pick (b := true) rfl rfl rfl) ?_
        refine hl_y rfl rfl rfl (y_move rfl rfl) ?_
        refine hl_no 24 39 false true rfl rfl rfl rfl rfl rfl ?_
        refine hl_no 24 39 false true rfl rfl rfl rfl rfl rfl ?_
        refine hl_no 24 39 false true rfl rfl rfl rfl rfl rfl ?_
        refine hl_y rfl rfl rfl (y_pick (b := true) rfl rfl rfl) ?_
        refine hl_nil ?_
        refine hq_then ?_
        refine hc_ifT rfl ?_
        refine hc_seq ?_
        refine hc_region ?_
        refine hl_i rfl rfl rfl (e_call0 rfl F47 rfl (fun w hw => law09_alive_ct w (hkl.below (Mm.out hw).low)) rfl) ?_; intro _
        refine hl_y rfl rfl rfl (y_assign rfl rfl) ?_
        refine hl_nil ?_
        refine hq_then ?_
        refine hc_ret ?_
        exact hq_then_ret (hq_ret1 (()) rfl (rv_tmp rfl) rfl (fun _ h => Mm.pick h [] (by simp)))
      · skip
        rcases Decidable.em (100 < n) with k3 | k3
        · skip
          refine hc_region ?_
          refine hl_y rfl rfl rfl (y_move rfl rfl) ?_
          refine hl_y rfl rfl rfl (y_lenE (kl.length) rfl rfl S22 rfl (rdF hk) (by first | rfl | (simp only [ls_len, ns_len, List.length_append, List.length_take, List.length_drop, List.length_replicate, List.length_cons, List.length_nil, putL_len, shaL_len, overL_len, macKey_len, hmacL_len, tgL_len, outN_len, expN_len, infoL_len, derL_len]; done) | (simp only [ls_len, ns_len, List.length_append, List.length_take, List.length_drop, List.length_replicate, List.length_cons, List.length_nil, putL_len, shaL_len, overL_len, macKey_len, hmacL_len, tgL_len, outN_len, expN_len, infoL_len, derL_len]; omega))) ?_
          refine hl_y rfl rfl rfl (y_as (y_gtrn (q := 200) rfl rfl rfl ) (congrArg Value.bool (decide_eq_false (by omega)))) ?_
          refine hl_y rfl rfl rfl (y_move rfl rfl) ?_
          refine hl_yg 3 18 false rfl rfl rfl rfl rfl (y_move rfl rfl) ?_
          refine hl_yg 3 18 false rfl rfl rfl rfl rfl (y_lenE (il.length) rfl rfl S22 rfl (rdF hi) (by first | rfl | (simp only [ls_len, ns_len, List.length_append, List.length_take, List.length_drop, List.length_replicate, List.length_cons, List.length_nil, putL_len, shaL_len, overL_len, macKey_len, hmacL_len, tgL_len, outN_len, expN_len, infoL_len, derL_len]; done) | (simp only [ls_len, ns_len, List.length_append, List.length_take, List.length_drop, List.length_replicate, List.length_cons, List.length_nil, putL_len, shaL_len, overL_len, macKey_len, hmacL_len, tgL_len, outN_len, expN_len, infoL_len, derL_len]; omega))) ?_
          refine hl_yg 3 18 false rfl rfl rfl rfl rfl (y_as (y_gtrn (q := 200) rfl rfl rfl ) (congrArg Value.bool (decide_eq_false (by omega)))) ?_
          refine hl_y rfl rfl rfl (y_pick (b := false) rfl rfl rfl) ?_
          refine hl_y rfl rfl rfl (y_move rfl rfl) ?_
          refine hl_yg 8 23 false rfl rfl rfl rfl rfl (y_move rfl rfl) ?_
          refine hl_yg 8 23 false rfl rfl rfl rfl rfl (y_as (y_lssn (q := 1) rfl rfl rfl ) (congrArg Value.bool (decide_eq_false (by omega)))) ?_
          refine hl_y rfl rfl rfl (y_pick (b := false) rfl rfl rfl) ?_
          refine hl_y rfl rfl rfl (y_move rfl rfl) ?_
          refine hl_yg 12 27 false rfl rfl rfl rfl rfl (y_move rfl rfl) ?_
          refine hl_yg 12 27 false rfl rfl rfl rfl rfl (y_as (y_gtrn (q := 100) rfl rfl rfl ) (congrArg Value.bool (decide_eq_true (by omega)))) ?_
          refine hl_y rfl rfl rfl (y_pick (b := false) rfl rfl rfl) ?_
          refine hl_y rfl rfl rfl (y_move rfl rfl) ?_
          refine hl_no 16 31 false true rfl rfl rfl rfl rfl rfl ?_
          refine hl_no 16 31 false true rfl rfl rfl rfl rfl rfl ?_
          refine hl_y rfl rfl rfl (y_pick (b := true) rfl rfl rfl) ?_
          refine hl_y rfl rfl rfl (y_move rfl rfl) ?_
          refine hl_no 20 35 false true rfl rfl rfl rfl rfl rfl ?_
          refine hl_no 20 35 false true rfl rfl rfl rfl rfl rfl ?_
          refine hl_y rfl rfl rfl (y_pick (b := true) rfl rfl rfl) ?_
          refine hl_y rfl rfl rfl (y_move rfl rfl) ?_
          refine hl_no 24 39 false true rfl rfl rfl rfl rfl rfl ?_
          refine hl_no 24 39 false true rfl rfl rfl rfl rfl rfl ?_
          refine hl_no 24 39 false true rfl rfl rfl rfl rfl rfl ?_
          refine hl_y rfl rfl rfl (y_pick (b := true) rfl rfl rfl) ?_
          refine hl_nil ?_
          refine hq_then ?_
          refine hc_ifT rfl ?_
          refine hc_seq ?_
          refine hc_region ?_
          refine hl_i rfl rfl rfl (e_call0 rfl F47 rfl (fun w hw => law09_alive_ct w (hkl.below (Mm.out hw).low)) rfl) ?_; intro _
          refine hl_y rfl rfl rfl (y_assign rfl rfl) ?_
          refine hl_nil ?_
          refine hq_then ?_
          refine hc_ret ?_
          exact hq_then_ret (hq_ret1 (()) rfl (rv_tmp rfl) rfl (fun _ h => Mm.pick h [] (by simp)))
        · skip
          refine hc_region ?_
          refine hl_y rfl rfl rfl (y_move rfl rfl) ?_
          refine hl_y rfl rfl rfl (y_lenE (kl.length) rfl rfl S22 rfl (rdF hk) (by first | rfl | (simp only [ls_len, ns_len, List.length_append, List.length_take, List.length_drop, List.length_replicate, List.length_cons, List.length_nil, putL_len, shaL_len, overL_len, macKey_len, hmacL_len, tgL_len, outN_len, expN_len, infoL_len, derL_len]; done) | (simp only [ls_len, ns_len, List.length_append, List.length_take, List.length_drop, List.length_replicate, List.length_cons, List.length_nil, putL_len, shaL_len, overL_len, macKey_len, hmacL_len, tgL_len, outN_len, expN_len, infoL_len, derL_len]; omega))) ?_
          refine hl_y rfl rfl rfl (y_as (y_gtrn (q := 200) rfl rfl rfl ) (congrArg Value.bool (decide_eq_false (by omega)))) ?_
          refine hl_y rfl rfl rfl (y_move rfl rfl) ?_
          refine hl_yg 3 18 false rfl rfl rfl rfl rfl (y_move rfl rfl) ?_
          refine hl_yg 3 18 false rfl rfl rfl rfl rfl (y_lenE (il.length) rfl rfl S22 rfl (rdF hi) (by first | rfl | (simp only [ls_len, ns_len, List.length_append, List.length_take, List.length_drop, List.length_replicate, List.length_cons, List.length_nil, putL_len, shaL_len, overL_len, macKey_len, hmacL_len, tgL_len, outN_len, expN_len, infoL_len, derL_len]; done) | (simp only [ls_len, ns_len, List.length_append, List.length_take, List.length_drop, List.length_replicate, List.length_cons, List.length_nil, putL_len, shaL_len, overL_len, macKey_len, hmacL_len, tgL_len, outN_len, expN_len, infoL_len, derL_len]; omega))) ?_
          refine hl_yg 3 18 false rfl rfl rfl rfl rfl (y_as (y_gtrn (q := 200) rfl rfl rfl ) (congrArg Value.bool (decide_eq_false (by omega)))) ?_
          refine hl_y rfl rfl rfl (y_pick (b := false) rfl rfl rfl) ?_
          refine hl_y rfl rfl rfl (y_move rfl rfl) ?_
          refine hl_yg 8 23 false rfl rfl rfl rfl rfl (y_move rfl rfl) ?_
          refine hl_yg 8 23 false rfl rfl rfl rfl rfl (y_as (y_lssn (q := 1) rfl rfl rfl ) (congrArg Value.bool (decide_eq_false (by omega)))) ?_
          refine hl_y rfl rfl rfl (y_pick (b := false) rfl rfl rfl) ?_
          refine hl_y rfl rfl rfl (y_move rfl rfl) ?_
          refine hl_yg 12 27 false rfl rfl rfl rfl rfl (y_move rfl rfl) ?_
          refine hl_yg 12 27 false rfl rfl rfl rfl rfl (y_as (y_gtrn (q := 100) rfl rfl rfl ) (congrArg Value.bool (decide_eq_false (by omega)))) ?_
          refine hl_y rfl rfl rfl (y_pick (b := false) rfl rfl rfl) ?_
          refine hl_y rfl rfl rfl (y_move rfl rfl) ?_
          refine hl_yg 16 31 false rfl rfl rfl rfl rfl (y_move rfl rfl) ?_
          refine hl_yg 16 31 false rfl rfl rfl rfl rfl (y_as (y_lssi (q := 0) rfl rfl rfl ) (congrArg Value.bool (decide_eq_true (by omega)))) ?_
          refine hl_y rfl rfl rfl (y_pick (b := false) rfl rfl rfl) ?_
          refine hl_y rfl rfl rfl (y_move rfl rfl) ?_
          refine hl_no 20 35 false true rfl rfl rfl rfl rfl rfl ?_
          refine hl_no 20 35 false true rfl rfl rfl rfl rfl rfl ?_
          refine hl_y rfl rfl rfl (y_pick (b := true) rfl rfl rfl) ?_
          refine hl_y rfl rfl rfl (y_move rfl rfl) ?_
          refine hl_no 24 39 false true rfl rfl rfl rfl rfl rfl ?_
          refine hl_no 24 39 false true rfl rfl rfl rfl rfl rfl ?_
          refine hl_no 24 39 false true rfl rfl rfl rfl rfl rfl ?_
          refine hl_y rfl rfl rfl (y_pick (b := true) rfl rfl rfl) ?_
          refine hl_nil ?_
          refine hq_then ?_
          refine hc_ifT rfl ?_
          refine hc_seq ?_
          refine hc_region ?_
          refine hl_i rfl rfl rfl (e_call0 rfl F47 rfl (fun w hw => law09_alive_ct w (hkl.below (Mm.out hw).low)) rfl) ?_; intro _
          refine hl_y rfl rfl rfl (y_assign rfl rfl) ?_
          refine hl_nil ?_
          refine hq_then ?_
          refine hc_ret ?_
          exact hq_then_ret (hq_ret1 (()) rfl (rv_tmp rfl) rfl (fun _ h => Mm.pick h [] (by simp)))

set_option maxHeartbeats 1000000 in
theorem kdfFewer_nx (kl : List UInt8) (kv : Value) (il : List UInt8) (iv : Value) (sl : List UInt8) (n m : Int) (hb : -9223372036854775808 ≤ n) (hn : n < 1) (hb2 : -9223372036854775808 ≤ m) (hm2 : m ≤ 9223372036854775807) (w : World) (hk : Rd w kv (ls vb kl)) (mk : kl.length ≤ 9223372036854775807) (hi : Rd w iv (ls vb il)) (mi : il.length ≤ 9223372036854775807) (ms : sl.length ≤ 9223372036854775807) (hkl : KL w) : Ct0 Tryd.prog 13 #[kv, iv, .int .i64 n, .int .i64 m, vs sl] w (.bool true) := by
  refine ct0_of Tryd.func13 rfl Tryd.ntmps13 rfl ?_
  refine hc_seq ?_
  refine hc_region ?_
  refine hl_y rfl rfl rfl (y_assign rfl rfl) ?_
  refine hl_nil ?_
  refine hq_then ?_
  refine hc_seq ?_
  refine hc_seq ?_
  rcases Decidable.em (200 < kl.length) with k0 | k0
  · skip
    refine hc_region ?_
    refine hl_y rfl rfl rfl (y_move rfl rfl) ?_
    refine hl_y rfl rfl rfl (y_lenE (kl.length) rfl rfl S22 rfl (rdF hk) (by first | rfl | (simp only [ls_len, ns_len, List.length_append, List.length_take, List.length_drop, List.length_replicate, List.length_cons, List.length_nil, putL_len, shaL_len, overL_len, macKey_len, hmacL_len, tgL_len, outN_len, expN_len, infoL_len, derL_len]; done) | (simp only [ls_len, ns_len, List.length_append, List.length_take, List.length_drop, List.length_replicate, List.length_cons, List.length_nil, putL_len, shaL_len, overL_len, macKey_len, hmacL_len, tgL_len, outN_len, expN_len, infoL_len, derL_len]; omega))) ?_
    refine hl_y rfl rfl rfl (y_as (y_gtrn (q := 200) rfl rfl rfl ) (congrArg Value.bool (decide_eq_true (by omega)))) ?_
    refine hl_y rfl rfl rfl (y_move rfl rfl) ?_
    refine hl_no 3 18 false true rfl rfl rfl rfl rfl rfl ?_
    refine hl_no 3 18 false true rfl rfl rfl rfl rfl rfl ?_
    refine hl_no 3 18 false true rfl rfl rfl rfl rfl rfl ?_
    refine hl_y rfl rfl rfl (y_pick (b := true) rfl rfl rfl) ?_
    refine hl_y rfl rfl rfl (y_move rfl rfl) ?_
    refine hl_no 8 23 false true rfl rfl rfl rfl rfl rfl ?_
    refine hl_no 8 23 false true rfl rfl rfl rfl rfl rfl ?_
    refine hl_y rfl rfl rfl (y_pick (b := true) rfl rfl rfl) ?_
    refine hl_y rfl rfl rfl (y_move rfl rfl) ?_
    refine hl_no 12 27 false true rfl rfl rfl rfl rfl rfl ?_
    refine hl_no 12 27 false true rfl rfl rfl rfl rfl rfl ?_
    refine hl_y rfl rfl rfl (y_pick (b := true) rfl rfl rfl) ?_
    refine hl_y rfl rfl rfl (y_move rfl rfl) ?_
    refine hl_no 16 31 false true rfl rfl rfl rfl rfl rfl ?_
    refine hl_no 16 31 false true rfl rfl rfl rfl rfl rfl ?_
    refine hl_y rfl rfl rfl (y_pick (b := true) rfl rfl rfl) ?_
    refine hl_y rfl rfl rfl (y_move rfl rfl) ?_
    refine hl_no 20 35 false true rfl rfl rfl rfl rfl rfl ?_
    refine hl_no 20 35 false true rfl rfl rfl rfl rfl rfl ?_
    refine hl_y rfl rfl rfl (y_pick (b := true) rfl rfl rfl) ?_
    refine hl_y rfl rfl rfl (y_move rfl rfl) ?_
    refine hl_no 24 39 false true rfl rfl rfl rfl rfl rfl ?_
    refine hl_no 24 39 false true rfl rfl rfl rfl rfl rfl ?_
    refine hl_no 24 39 false true rfl rfl rfl rfl rfl rfl ?_
    refine hl_y rfl rfl rfl (y_pick (b := true) rfl rfl rfl) ?_
    refine hl_nil ?_
    refine hq_then ?_
    refine hc_ifT rfl ?_
    refine hc_seq ?_
    refine hc_region ?_
    refine hl_i rfl rfl rfl (e_call0 rfl F47 rfl (fun w hw => law09_alive_ct w (hkl.below (Mm.out hw).low)) rfl) ?_; intro _
    refine hl_y rfl rfl rfl (y_assign rfl rfl) ?_
    refine hl_nil ?_
    refine hq_then ?_
    refine hc_ret ?_
    exact hq_then_ret (hq_ret1 (()) rfl (rv_tmp rfl) rfl (fun _ h => Mm.pick h [] (by simp)))
  · skip
    rcases Decidable.em (200 < il.length) with k1 | k1
    · skip
      refine hc_region ?_
      refine hl_y rfl rfl rfl (y_move rfl rfl) ?_
      refine hl_y rfl rfl rfl (y_lenE (kl.length) rfl rfl S22 rfl (rdF hk) (by first | rfl | (simp only [ls_len, ns_len, List.length_append, List.length_take, List.length_drop, List.length_replicate, List.length_cons, List.length_nil, putL_len, shaL_len, overL_len, macKey_len, hmacL_len, tgL_len, outN_len, expN_len, infoL_len, derL_len]; done) | (simp only [ls_len, ns_len, List.length_append, List.length_take, List.length_drop, List.length_replicate, List.length_cons, List.length_nil, putL_len, shaL_len, overL_len, macKey_len, hmacL_len, tgL_len, outN_len, expN_len, infoL_len, derL_len]; omega))) ?_
      refine hl_y rfl rfl rfl (y_as (y_gtrn (q := 200) rfl rfl rfl ) (congrArg Value.bool (decide_eq_false (by omega)))) ?_
      refine hl_y rfl rfl rfl (y_move rfl rfl) ?_
      refine hl_yg 3 18 false rfl rfl rfl rfl rfl (y_move rfl rfl) ?_
      refine hl_yg 3 18 false rfl rfl rfl rfl rfl (y_lenE (il.length) rfl rfl S22 rfl (rdF hi) (by first | rfl | (simp only [ls_len, ns_len, List.length_append, List.length_take, List.length_drop, List.length_replicate, List.length_cons, List.length_nil, putL_len, shaL_len, overL_len, macKey_len, hmacL_len, tgL_len, outN_len, expN_len, infoL_len, derL_len]; done) | (simp only [ls_len, ns_len, List.length_append, List.length_take, List.length_drop, List.length_replicate, List.length_cons, List.length_nil, putL_len, shaL_len, overL_len, macKey_len, hmacL_len, tgL_len, outN_len, expN_len, infoL_len, derL_len]; omega))) ?_
      refine hl_yg 3 18 false rfl rfl rfl rfl rfl (y_as (y_gtrn (q := 200) rfl rfl rfl ) (congrArg Value.bool (decide_eq_true (by omega)))) ?_
      refine hl_y rfl rfl rfl (y_pick (b := false) rfl rfl rfl) ?_
      refine hl_y rfl rfl rfl (y_move rfl rfl) ?_
      refine hl_no 8 23 false true rfl rfl rfl rfl rfl rfl ?_
      refine hl_no 8 23 false true rfl rfl rfl rfl rfl rfl ?_
      refine hl_y rfl rfl rfl (y_pick (b := true) rfl rfl rfl) ?_
      refine hl_y rfl rfl rfl (y_move rfl rfl) ?_
      refine hl_no 12 27 false true rfl rfl rfl rfl rfl rfl ?_
      refine hl_no 12 27 false true rfl rfl rfl rfl rfl rfl ?_
      refine hl_y rfl rfl rfl (y_pick (b := true) rfl rfl rfl) ?_
      refine hl_y rfl rfl rfl (y_move rfl rfl) ?_
      refine hl_no 16 31 false true rfl rfl rfl rfl rfl rfl ?_
      refine hl_no 16 31 false true rfl rfl rfl rfl rfl rfl ?_
      refine hl_y rfl rfl rfl (y_pick (b := true) rfl rfl rfl) ?_
      refine hl_y rfl rfl rfl (y_move rfl rfl) ?_
      refine hl_no 20 35 false true rfl rfl rfl rfl rfl rfl ?_
      refine hl_no 20 35 false true rfl rfl rfl rfl rfl rfl ?_
      refine hl_y rfl rfl rfl (y_pick (b := true) rfl rfl rfl) ?_
      refine hl_y rfl rfl rfl (y_move rfl rfl) ?_
      refine hl_no 24 39 false true rfl rfl rfl rfl rfl rfl ?_
      refine hl_no 24 39 false true rfl rfl rfl rfl rfl rfl ?_
      refine hl_no 24 39 false true rfl rfl rfl rfl rfl rfl ?_
      refine hl_y rfl rfl rfl (y_pick (b := true) rfl rfl rfl) ?_
      refine hl_nil ?_
      refine hq_then ?_
      refine hc_ifT rfl ?_
      refine hc_seq ?_
      refine hc_region ?_
      refine hl_i rfl rfl rfl (e_call0 rfl F47 rfl (fun w hw => law09_alive_ct w (hkl.below (Mm.out hw).low)) rfl) ?_; intro _
      refine hl_y rfl rfl rfl (y_assign rfl rfl) ?_
      refine hl_nil ?_
      refine hq_then ?_
      refine hc_ret ?_
      exact hq_then_ret (hq_ret1 (()) rfl (rv_tmp rfl) rfl (fun _ h => Mm.pick h [] (by simp)))
    · skip
      refine hc_region ?_
      refine hl_y rfl rfl rfl (y_move rfl rfl) ?_
      refine hl_y rfl rfl rfl (y_lenE (kl.length) rfl rfl S22 rfl (rdF hk) (by first | rfl | (simp only [ls_len, ns_len, List.length_append, List.length_take, List.length_drop, List.length_replicate, List.length_cons, List.length_nil, putL_len, shaL_len, overL_len, macKey_len, hmacL_len, tgL_len, outN_len, expN_len, infoL_len, derL_len]; done) | (simp only [ls_len, ns_len, List.length_append, List.length_take, List.length_drop, List.length_replicate, List.length_cons, List.length_nil, putL_len, shaL_len, overL_len, macKey_len, hmacL_len, tgL_len, outN_len, expN_len, infoL_len, derL_len]; omega))) ?_
      refine hl_y rfl rfl rfl (y_as (y_gtrn (q := 200) rfl rfl rfl ) (congrArg Value.bool (decide_eq_false (by omega)))) ?_
      refine hl_y rfl rfl rfl (y_move rfl rfl) ?_
      refine hl_yg 3 18 false rfl rfl rfl rfl rfl (y_move rfl rfl) ?_
      refine hl_yg 3 18 false rfl rfl rfl rfl rfl (y_lenE (il.length) rfl rfl S22 rfl (rdF hi) (by first | rfl | (simp only [ls_len, ns_len, List.length_append, List.length_take, List.length_drop, List.length_replicate, List.length_cons, List.length_nil, putL_len, shaL_len, overL_len, macKey_len, hmacL_len, tgL_len, outN_len, expN_len, infoL_len, derL_len]; done) | (simp only [ls_len, ns_len, List.length_append, List.length_take, List.length_drop, List.length_replicate, List.length_cons, List.length_nil, putL_len, shaL_len, overL_len, macKey_len, hmacL_len, tgL_len, outN_len, expN_len, infoL_len, derL_len]; omega))) ?_
      refine hl_yg 3 18 false rfl rfl rfl rfl rfl (y_as (y_gtrn (q := 200) rfl rfl rfl ) (congrArg Value.bool (decide_eq_false (by omega)))) ?_
      refine hl_y rfl rfl rfl (y_pick (b := false) rfl rfl rfl) ?_
      refine hl_y rfl rfl rfl (y_move rfl rfl) ?_
      refine hl_yg 8 23 false rfl rfl rfl rfl rfl (y_move rfl rfl) ?_
      refine hl_yg 8 23 false rfl rfl rfl rfl rfl (y_as (y_lssi (q := 1) rfl rfl rfl ) (congrArg Value.bool (decide_eq_true (by omega)))) ?_
      refine hl_y rfl rfl rfl (y_pick (b := false) rfl rfl rfl) ?_
      refine hl_y rfl rfl rfl (y_move rfl rfl) ?_
      refine hl_no 12 27 false true rfl rfl rfl rfl rfl rfl ?_
      refine hl_no 12 27 false true rfl rfl rfl rfl rfl rfl ?_
      refine hl_y rfl rfl rfl (y_pick (b := true) rfl rfl rfl) ?_
      refine hl_y rfl rfl rfl (y_move rfl rfl) ?_
      refine hl_no 16 31 false true rfl rfl rfl rfl rfl rfl ?_
      refine hl_no 16 31 false true rfl rfl rfl rfl rfl rfl ?_
      refine hl_y rfl rfl rfl (y_pick (b := true) rfl rfl rfl) ?_
      refine hl_y rfl rfl rfl (y_move rfl rfl) ?_
      refine hl_no 20 35 false true rfl rfl rfl rfl rfl rfl ?_
      refine hl_no 20 35 false true rfl rfl rfl rfl rfl rfl ?_
      refine hl_y rfl rfl rfl (y_pick (b := true) rfl rfl rfl) ?_
      refine hl_y rfl rfl rfl (y_move rfl rfl) ?_
      refine hl_no 24 39 false true rfl rfl rfl rfl rfl rfl ?_
      refine hl_no 24 39 false true rfl rfl rfl rfl rfl rfl ?_
      refine hl_no 24 39 false true rfl rfl rfl rfl rfl rfl ?_
      refine hl_y rfl rfl rfl (y_pick (b := true) rfl rfl rfl) ?_
      refine hl_nil ?_
      refine hq_then ?_
      refine hc_ifT rfl ?_
      refine hc_seq ?_
      refine hc_region ?_
      refine hl_i rfl rfl rfl (e_call0 rfl F47 rfl (fun w hw => law09_alive_ct w (hkl.below (Mm.out hw).low)) rfl) ?_; intro _
      refine hl_y rfl rfl rfl (y_assign rfl rfl) ?_
      refine hl_nil ?_
      refine hq_then ?_
      refine hc_ret ?_
      exact hq_then_ret (hq_ret1 (()) rfl (rv_tmp rfl) rfl (fun _ h => Mm.pick h [] (by simp)))

end Go.Proofs.YtcdidapkpfnphaaDoor
