/- The laws of tags: each call gives back true. -/
import Derived.Test.YtcdidapkpfnphaaDoorMacC
import Derived.Test.YtcdidapkpfnphaaDoorPureMac
import Derived.Test.YtcdidapkpfnphaaDoorCtrB
namespace Go.Proofs.YtcdidapkpfnphaaDoor
open Go.RowKit
set_option linter.unusedVariables false
set_option linter.unusedSimpArgs false
set_option maxRecDepth 100000
theorem mac_Check_t (kl : List UInt8) (kv : Value) (tl : List UInt8) (tv : Value) (il : List UInt8) (iv : Value)  (w : World) (hk : Rd w kv (ls vb kl)) (hkm : kl.length ≤ 1000) (ht : Rd w tv (ls vb tl)) (htm : tl.length ≤ 90000) (hi : Rd w iv (ls vb il)) (hkl : KL w) (e : hmacL kl tl = il) : Ct0 Tryd.prog 46 #[kv, tv, iv] w (.bool true) := by
  have h := mac_Check_ct kl kv tl tv il iv w hk hkm ht htm hi hkl
  rwa [decide_eq_true e] at h
theorem mac_Check_f (kl : List UInt8) (kv : Value) (tl : List UInt8) (tv : Value) (il : List UInt8) (iv : Value)  (w : World) (hk : Rd w kv (ls vb kl)) (hkm : kl.length ≤ 1000) (ht : Rd w tv (ls vb tl)) (htm : tl.length ≤ 90000) (hi : Rd w iv (ls vb il)) (hkl : KL w) (e : ¬ hmacL kl tl = il) : Ct0 Tryd.prog 46 #[kv, tv, iv] w (.bool false) := by
  have h := mac_Check_ct kl kv tl tv il iv w hk hkm ht htm hi hkl
  rwa [decide_eq_false e] at h
theorem law08_alive_ct (w : World) (hkl : KL w) : Ct0 Tryd.prog 39 #[] w (.bool true) := by
  refine ct0_of Tryd.func39 rfl Tryd.ntmps39 rfl ?_
  refine hc_seq ?_
  refine hc_region ?_
  refine hl_y rfl rfl rfl (y_assign rfl rfl) ?_
  refine hl_nil ?_
  refine hq_then ?_
  refine hc_seq ?_
  refine hc_region ?_
  refine hl_i rfl rfl rfl (e_call rfl F41 rfl (fun w hw => mac_Of_ct ([]) _ ([]) _ w (rd_nilb w hw) (by first | omega | (simp only [List.length_append, List.length_take, List.length_drop, List.length_replicate, List.length_cons, List.length_nil, putL_len, shaL_len, overL_len, macKey_len, hmacL_len]; omega) | (simp only [List.length_append, List.length_take, List.length_drop, List.length_replicate, List.length_cons, List.length_nil, putL_len, shaL_len, overL_len, macKey_len, hmacL_len] at *; omega)) (rd_nilb w hw) (by first | omega | (simp only [List.length_append, List.length_take, List.length_drop, List.length_replicate, List.length_cons, List.length_nil, putL_len, shaL_len, overL_len, macKey_len, hmacL_len]; omega) | (simp only [List.length_append, List.length_take, List.length_drop, List.length_replicate, List.length_cons, List.length_nil, putL_len, shaL_len, overL_len, macKey_len, hmacL_len] at *; omega)) (hkl.below (Mm.out hw).low)) rfl) ?_; intro y2
  refine hl_y rfl rfl rfl (y_assign rfl rfl) ?_
  refine hl_nil ?_
  refine hq_then ?_
  refine hc_seq ?_
  refine hc_region ?_
  refine hl_y rfl rfl rfl (y_move rfl rfl) ?_
  refine hl_y rfl rfl rfl (y_lenE (32) rfl rfl S22 rfl (rdR 0 rfl) (by first | rfl | (simp only [ls_len, ns_len, List.length_append, List.length_take, List.length_drop, List.length_replicate, List.length_cons, List.length_nil, putL_len, shaL_len, overL_len, macKey_len, hmacL_len]; done) | (simp only [ls_len, ns_len, List.length_append, List.length_take, List.length_drop, List.length_replicate, List.length_cons, List.length_nil, putL_len, shaL_len, overL_len, macKey_len, hmacL_len]; omega))) ?_
  refine hl_y rfl rfl rfl (y_as (y_eqln (q := 32) rfl rfl rfl ) (congrArg Value.bool (decide_eq_true (by omega)))) ?_
  refine hl_y rfl rfl rfl (y_move rfl rfl) ?_
  refine hl_yg 3 6 true rfl rfl rfl rfl rfl (y_move rfl rfl) ?_
  refine hl_yg 3 6 true rfl rfl rfl rfl rfl (y_ixs (k := 0) rfl S22 rfl (rdR 0 rfl) rfl (by first | omega | (simp only [ls_len, ns_len, List.length_append, List.length_take, List.length_drop, List.length_replicate, List.length_cons, List.length_nil, putL_len, shaL_len, overL_len, macKey_len, hmacL_len]; omega) | (simp only [ls_len, ns_len, List.length_append, List.length_take, List.length_drop, List.length_replicate, List.length_cons, List.length_nil, putL_len, shaL_len, overL_len, macKey_len, hmacL_len] at *; omega))) ?_
  refine hl_yg 3 6 true rfl rfl rfl rfl rfl (y_ldb rfl O5 rfl (rdR 0 rfl) (by first | omega | (simp only [ls_len, ns_len, List.length_append, List.length_take, List.length_drop, List.length_replicate, List.length_cons, List.length_nil, putL_len, shaL_len, overL_len, macKey_len, hmacL_len]; omega) | (simp only [ls_len, ns_len, List.length_append, List.length_take, List.length_drop, List.length_replicate, List.length_cons, List.length_nil, putL_len, shaL_len, overL_len, macKey_len, hmacL_len] at *; omega))) ?_
  refine hl_yg 3 6 true rfl rfl rfl rfl rfl (y_as (y_eqlb (q := 182) rfl rfl rfl) (congrArg Value.bool (decide_eq_true (mac_nil.1)))) ?_
  refine hl_y rfl rfl rfl (y_pick (b := true) rfl rfl rfl) ?_
  refine hl_y rfl rfl rfl (y_move rfl rfl) ?_
  refine hl_yg 9 12 true rfl rfl rfl rfl rfl (y_move rfl rfl) ?_
  refine hl_yg 9 12 true rfl rfl rfl rfl rfl (y_ixs (k := 1) rfl S22 rfl (rdR 0 rfl) rfl (by first | omega | (simp only [ls_len, ns_len, List.length_append, List.length_take, List.length_drop, List.length_replicate, List.length_cons, List.length_nil, putL_len, shaL_len, overL_len, macKey_len, hmacL_len]; omega) | (simp only [ls_len, ns_len, List.length_append, List.length_take, List.length_drop, List.length_replicate, List.length_cons, List.length_nil, putL_len, shaL_len, overL_len, macKey_len, hmacL_len] at *; omega))) ?_
  refine hl_yg 9 12 true rfl rfl rfl rfl rfl (y_ldb rfl O5 rfl (rdR 0 rfl) (by first | omega | (simp only [ls_len, ns_len, List.length_append, List.length_take, List.length_drop, List.length_replicate, List.length_cons, List.length_nil, putL_len, shaL_len, overL_len, macKey_len, hmacL_len]; omega) | (simp only [ls_len, ns_len, List.length_append, List.length_take, List.length_drop, List.length_replicate, List.length_cons, List.length_nil, putL_len, shaL_len, overL_len, macKey_len, hmacL_len] at *; omega))) ?_
  refine hl_yg 9 12 true rfl rfl rfl rfl rfl (y_as (y_eqlb (q := 19) rfl rfl rfl) (congrArg Value.bool (decide_eq_true (mac_nil.2.1)))) ?_
  refine hl_y rfl rfl rfl (y_pick (b := true) rfl rfl rfl) ?_
  refine hl_y rfl rfl rfl (y_move rfl rfl) ?_
  refine hl_yg 15 18 true rfl rfl rfl rfl rfl (y_move rfl rfl) ?_
  refine hl_yg 15 18 true rfl rfl rfl rfl rfl (y_ixs (k := 2) rfl S22 rfl (rdR 0 rfl) rfl (by first | omega | (simp only [ls_len, ns_len, List.length_append, List.length_take, List.length_drop, List.length_replicate, List.length_cons, List.length_nil, putL_len, shaL_len, overL_len, macKey_len, hmacL_len]; omega) | (simp only [ls_len, ns_len, List.length_append, List.length_take, List.length_drop, List.length_replicate, List.length_cons, List.length_nil, putL_len, shaL_len, overL_len, macKey_len, hmacL_len] at *; omega))) ?_
  refine hl_yg 15 18 true rfl rfl rfl rfl rfl (y_ldb rfl O5 rfl (rdR 0 rfl) (by first | omega | (simp only [ls_len, ns_len, List.length_append, List.length_take, List.length_drop, List.length_replicate, List.length_cons, List.length_nil, putL_len, shaL_len, overL_len, macKey_len, hmacL_len]; omega) | (simp only [ls_len, ns_len, List.length_append, List.length_take, List.length_drop, List.length_replicate, List.length_cons, List.length_nil, putL_len, shaL_len, overL_len, macKey_len, hmacL_len] at *; omega))) ?_
  refine hl_yg 15 18 true rfl rfl rfl rfl rfl (y_as (y_eqlb (q := 103) rfl rfl rfl) (congrArg Value.bool (decide_eq_true (mac_nil.2.2.1)))) ?_
  refine hl_y rfl rfl rfl (y_pick (b := true) rfl rfl rfl) ?_
  refine hl_y rfl rfl rfl (y_move rfl rfl) ?_
  refine hl_yg 21 24 true rfl rfl rfl rfl rfl (y_move rfl rfl) ?_
  refine hl_yg 21 24 true rfl rfl rfl rfl rfl (y_ixs (k := 3) rfl S22 rfl (rdR 0 rfl) rfl (by first | omega | (simp only [ls_len, ns_len, List.length_append, List.length_take, List.length_drop, List.length_replicate, List.length_cons, List.length_nil, putL_len, shaL_len, overL_len, macKey_len, hmacL_len]; omega) | (simp only [ls_len, ns_len, List.length_append, List.length_take, List.length_drop, List.length_replicate, List.length_cons, List.length_nil, putL_len, shaL_len, overL_len, macKey_len, hmacL_len] at *; omega))) ?_
  refine hl_yg 21 24 true rfl rfl rfl rfl rfl (y_ldb rfl O5 rfl (rdR 0 rfl) (by first | omega | (simp only [ls_len, ns_len, List.length_append, List.length_take, List.length_drop, List.length_replicate, List.length_cons, List.length_nil, putL_len, shaL_len, overL_len, macKey_len, hmacL_len]; omega) | (simp only [ls_len, ns_len, List.length_append, List.length_take, List.length_drop, List.length_replicate, List.length_cons, List.length_nil, putL_len, shaL_len, overL_len, macKey_len, hmacL_len] at *; omega))) ?_
  refine hl_yg 21 24 true rfl rfl rfl rfl rfl (y_as (y_eqlb (q := 154) rfl rfl rfl) (congrArg Value.bool (decide_eq_true (mac_nil.2.2.2)))) ?_
  refine hl_y rfl rfl rfl (y_pick (b := true) rfl rfl rfl) ?_
  refine hl_y rfl rfl rfl (y_assign rfl rfl) ?_
  refine hl_nil ?_
  refine hq_then ?_
  refine hc_ret ?_
  exact hq_ret1 (()) rfl (rv_tmp rfl) rfl (fun _ h => Mm.pick h [] (by simp))

set_option maxHeartbeats 1000000 in
theorem macTags_ct (kl : List UInt8) (kv : Value) (la lb : List UInt8) (av bv : Value) (tl : List UInt8) (tv : Value)  (w : World) (hk : Rd w kv (ls vb kl)) (mk : kl.length ≤ 9223372036854775807) (ha : Rd w av (ls vb la)) (ma : la.length ≤ 9223372036854775807) (hb : Rd w bv (ls vb lb)) (mb : lb.length ≤ 9223372036854775807) (ht : Rd w tv (ls vb tl)) (mt : tl.length ≤ 9223372036854775807) (hkl : KL w) : Ct0 Tryd.prog 10 #[kv, av, bv, tv] w (.bool true) := by
  refine ct0_of Tryd.func10 rfl Tryd.ntmps10 rfl ?_
  refine hc_seq ?_
  refine hc_region ?_
  refine hl_y rfl rfl rfl (y_assign rfl rfl) ?_
  refine hl_nil ?_
  refine hq_then ?_
  refine hc_seq ?_
  refine hc_seq ?_
  rcases Decidable.em (300 < kl.length) with k0 | k0
  · skip
    refine hc_region ?_
    refine hl_y rfl rfl rfl (y_move rfl rfl) ?_
    refine hl_y rfl rfl rfl (y_lenE (kl.length) rfl rfl S22 rfl (rdF hk) (by first | rfl | (simp only [ls_len, ns_len, List.length_append, List.length_take, List.length_drop, List.length_replicate, List.length_cons, List.length_nil, putL_len, shaL_len, overL_len, macKey_len, hmacL_len]; done) | (simp only [ls_len, ns_len, List.length_append, List.length_take, List.length_drop, List.length_replicate, List.length_cons, List.length_nil, putL_len, shaL_len, overL_len, macKey_len, hmacL_len]; omega))) ?_
    refine hl_y rfl rfl rfl (y_as (y_gtrn (q := 300) rfl rfl rfl ) (congrArg Value.bool (decide_eq_true (by omega)))) ?_
    refine hl_y rfl rfl rfl (y_move rfl rfl) ?_
    refine hl_no 3 13 false true rfl rfl rfl rfl rfl rfl ?_
    refine hl_no 3 13 false true rfl rfl rfl rfl rfl rfl ?_
    refine hl_no 3 13 false true rfl rfl rfl rfl rfl rfl ?_
    refine hl_y rfl rfl rfl (y_pick (b := true) rfl rfl rfl) ?_
    refine hl_y rfl rfl rfl (y_move rfl rfl) ?_
    refine hl_no 8 18 false true rfl rfl rfl rfl rfl rfl ?_
    refine hl_no 8 18 false true rfl rfl rfl rfl rfl rfl ?_
    refine hl_no 8 18 false true rfl rfl rfl rfl rfl rfl ?_
    refine hl_y rfl rfl rfl (y_pick (b := true) rfl rfl rfl) ?_
    refine hl_y rfl rfl rfl (y_move rfl rfl) ?_
    refine hl_no 13 23 false true rfl rfl rfl rfl rfl rfl ?_
    refine hl_no 13 23 false true rfl rfl rfl rfl rfl rfl ?_
    refine hl_no 13 23 false true rfl rfl rfl rfl rfl rfl ?_
    refine hl_y rfl rfl rfl (y_pick (b := true) rfl rfl rfl) ?_
    refine hl_nil ?_
    refine hq_then ?_
    refine hc_ifT rfl ?_
    refine hc_seq ?_
    refine hc_region ?_
    refine hl_i rfl rfl rfl (e_call0 rfl F39 rfl (fun w hw => law08_alive_ct w (hkl.below (Mm.out hw).low)) rfl) ?_; intro _
    refine hl_y rfl rfl rfl (y_assign rfl rfl) ?_
    refine hl_nil ?_
    refine hq_then ?_
    refine hc_ret ?_
    exact hq_then_ret (hq_ret1 (()) rfl (rv_tmp rfl) rfl (fun _ h => Mm.pick h [] (by simp)))
  · skip
    rcases Decidable.em (300 < la.length) with k1 | k1
    · skip
      refine hc_region ?_
      refine hl_y rfl rfl rfl (y_move rfl rfl) ?_
      refine hl_y rfl rfl rfl (y_lenE (kl.length) rfl rfl S22 rfl (rdF hk) (by first | rfl | (simp only [ls_len, ns_len, List.length_append, List.length_take, List.length_drop, List.length_replicate, List.length_cons, List.length_nil, putL_len, shaL_len, overL_len, macKey_len, hmacL_len]; done) | (simp only [ls_len, ns_len, List.length_append, List.length_take, List.length_drop, List.length_replicate, List.length_cons, List.length_nil, putL_len, shaL_len, overL_len, macKey_len, hmacL_len]; omega))) ?_
      refine hl_y rfl rfl rfl (y_as (y_gtrn (q := 300) rfl rfl rfl ) (congrArg Value.bool (decide_eq_false (by omega)))) ?_
      refine hl_y rfl rfl rfl (y_move rfl rfl) ?_
      refine hl_yg 3 13 false rfl rfl rfl rfl rfl (y_move rfl rfl) ?_
      refine hl_yg 3 13 false rfl rfl rfl rfl rfl (y_lenE (la.length) rfl rfl S22 rfl (rdF ha) (by first | rfl | (simp only [ls_len, ns_len, List.length_append, List.length_take, List.length_drop, List.length_replicate, List.length_cons, List.length_nil, putL_len, shaL_len, overL_len, macKey_len, hmacL_len]; done) | (simp only [ls_len, ns_len, List.length_append, List.length_take, List.length_drop, List.length_replicate, List.length_cons, List.length_nil, putL_len, shaL_len, overL_len, macKey_len, hmacL_len]; omega))) ?_
      refine hl_yg 3 13 false rfl rfl rfl rfl rfl (y_as (y_gtrn (q := 300) rfl rfl rfl ) (congrArg Value.bool (decide_eq_true (by omega)))) ?_
      refine hl_y rfl rfl rfl (y_pick (b := false) rfl rfl rfl) ?_
      refine hl_y rfl rfl rfl (y_move rfl rfl) ?_
      refine hl_no 8 18 false true rfl rfl rfl rfl rfl rfl ?_
      refine hl_no 8 18 false true rfl rfl rfl rfl rfl rfl ?_
      refine hl_no 8 18 false true rfl rfl rfl rfl rfl rfl ?_
      refine hl_y rfl rfl rfl (y_pick (b := true) rfl rfl rfl) ?_
      refine hl_y rfl rfl rfl (y_move rfl rfl) ?_
      refine hl_no 13 23 false true rfl rfl rfl rfl rfl rfl ?_
      refine hl_no 13 23 false true rfl rfl rfl rfl rfl rfl ?_
      refine hl_no 13 23 false true rfl rfl rfl rfl rfl rfl ?_
      refine hl_y rfl rfl rfl (y_pick (b := true) rfl rfl rfl) ?_
      refine hl_nil ?_
      refine hq_then ?_
      refine hc_ifT rfl ?_
      refine hc_seq ?_
      refine hc_region ?_
      refine hl_i rfl rfl rfl (e_call0 rfl F39 rfl (fun w hw => law08_alive_ct w (hkl.below (Mm.out hw).low)) rfl) ?_; intro _
      refine hl_y rfl rfl rfl (y_assign rfl rfl) ?_
      refine hl_nil ?_
      refine hq_then ?_
      refine hc_ret ?_
      exact hq_then_ret (hq_ret1 (()) rfl (rv_tmp rfl) rfl (fun _ h => Mm.pick h [] (by simp)))
    · skip
      rcases Decidable.em (300 < lb.length) with k2 | k2
      · skip
        refine hc_region ?_
        refine hl_y rfl rfl rfl (y_move rfl rfl) ?_
        refine hl_y rfl rfl rfl (y_lenE (kl.length) rfl rfl S22 rfl (rdF hk) (by first | rfl | (simp only [ls_len, ns_len, List.length_append, List.length_take, List.length_drop, List.length_replicate, List.length_cons, List.length_nil, putL_len, shaL_len, overL_len, macKey_len, hmacL_len]; done) | (simp only [ls_len, ns_len, List.length_append, List.length_take, List.length_drop, List.length_replicate, List.length_cons, List.length_nil, putL_len, shaL_len, overL_len, macKey_len, hmacL_len]; omega))) ?_
        refine hl_y rfl rfl rfl (y_as (y_gtrn (q := 300) rfl rfl rfl ) (congrArg Value.bool (decide_eq_false (by omega)))) ?_
        refine hl_y rfl rfl rfl (y_move rfl rfl) ?_
        refine hl_yg 3 13 false rfl rfl rfl rfl rfl (y_move rfl rfl) ?_
        refine hl_yg 3 13 false rfl rfl rfl rfl rfl (y_lenE (la.length) rfl rfl S22 rfl (rdF ha) (by first | rfl | (simp only [ls_len, ns_len, List.length_append, List.length_take, List.length_drop, List.length_replicate, List.length_cons, List.length_nil, putL_len, shaL_len, overL_len, macKey_len, hmacL_len]; done) | (simp only [ls_len, ns_len, List.length_append, List.length_take, List.length_drop, List.length_replicate, List.length_cons, List.length_nil, putL_len, shaL_len, overL_len, macKey_len, hmacL_len]; omega))) ?_
        refine hl_yg 3 13 false rfl rfl rfl rfl rfl (y_as (y_gtrn (q := 300) rfl rfl rfl ) (congrArg Value.bool (decide_eq_false (by omega)))) ?_
        refine hl_y rfl rfl rfl (y_pick (b := false) rfl rfl rfl) ?_
        refine hl_y rfl rfl rfl (y_move rfl rfl) ?_
        refine hl_yg 8 18 false rfl rfl rfl rfl rfl (y_move rfl rfl) ?_
        refine hl_yg 8 18 false rfl rfl rfl rfl rfl (y_lenE (lb.length) rfl rfl S22 rfl (rdF hb) (by first | rfl | (simp only [ls_len, ns_len, List.length_append, List.length_take, List.length_drop, List.length_replicate, List.length_cons, List.length_nil, putL_len, shaL_len, overL_len, macKey_len, hmacL_len]; done) | (simp only [ls_len, ns_len, List.length_append, List.length_take, List.length_drop, List.length_replicate, List.length_cons, List.length_nil, putL_len, shaL_len, overL_len, macKey_len, hmacL_len]; omega))) ?_
        refine hl_yg 8 18 false rfl rfl rfl rfl rfl (y_as (y_gtrn (q := 300) rfl rfl rfl ) (congrArg Value.bool (decide_eq_true (by omega)))) ?_
        refine hl_y rfl rfl rfl (y_pick (b := false) rfl rfl rfl) ?_
        refine hl_y rfl rfl rfl (y_move rfl rfl) ?_
        refine hl_no 13 23 false true rfl rfl rfl rfl rfl rfl ?_
        refine hl_no 13 23 false true rfl rfl rfl rfl rfl rfl ?_
        refine hl_no 13 23 false true rfl rfl rfl rfl rfl rfl ?_
        refine hl_y rfl rfl rfl (y_pick (b := true) rfl rfl rfl) ?_
        refine hl_nil ?_
        refine hq_then ?_
        refine hc_ifT rfl ?_
        refine hc_seq ?_
        refine hc_region ?_
        refine hl_i rfl rfl rfl (e_call0 rfl F39 rfl (fun w hw => law08_alive_ct w (hkl.below (Mm.out hw).low)) rfl) ?_; intro _
        refine hl_y rfl rfl rfl (y_assign rfl rfl) ?_
        refine hl_nil ?_
        refine hq_then ?_
        refine hc_ret ?_
        exact hq_then_ret (hq_ret1 (()) rfl (rv_tmp rfl) rfl (fun _ h => Mm.pick h [] (by simp)))
      · skip
        rcases Decidable.em (100 < tl.length) with k3 | k3
        · skip
          refine hc_region ?_
          refine hl_y rfl rfl rfl (y_move rfl rfl) ?_
          refine hl_y rfl rfl rfl (y_lenE (kl.length) rfl rfl S22 rfl (rdF hk) (by first | rfl | (simp only [ls_len, ns_len, List.length_append, List.length_take, List.length_drop, List.length_replicate, List.length_cons, List.length_nil, putL_len, shaL_len, overL_len, macKey_len, hmacL_len]; done) | (simp only [ls_len, ns_len, List.length_append, List.length_take, List.length_drop, List.length_replicate, List.length_cons, List.length_nil, putL_len, shaL_len, overL_len, macKey_len, hmacL_len]; omega))) ?_
          refine hl_y rfl rfl rfl (y_as (y_gtrn (q := 300) rfl rfl rfl ) (congrArg Value.bool (decide_eq_false (by omega)))) ?_
          refine hl_y rfl rfl rfl (y_move rfl rfl) ?_
          refine hl_yg 3 13 false rfl rfl rfl rfl rfl (y_move rfl rfl) ?_
          refine hl_yg 3 13 false rfl rfl rfl rfl rfl (y_lenE (la.length) rfl rfl S22 rfl (rdF ha) (by first | rfl | (simp only [ls_len, ns_len, List.length_append, List.length_take, List.length_drop, List.length_replicate, List.length_cons, List.length_nil, putL_len, shaL_len, overL_len, macKey_len, hmacL_len]; done) | (simp only [ls_len, ns_len, List.length_append, List.length_take, List.length_drop, List.length_replicate, List.length_cons, List.length_nil, putL_len, shaL_len, overL_len, macKey_len, hmacL_len]; omega))) ?_
          refine hl_yg 3 13 false rfl rfl rfl rfl rfl (y_as (y_gtrn (q := 300) rfl rfl rfl ) (congrArg Value.bool (decide_eq_false (by omega)))) ?_
          refine hl_y rfl rfl rfl (y_pick (b := false) rfl rfl rfl) ?_
          refine hl_y rfl rfl rfl (y_move rfl rfl) ?_
          refine hl_yg 8 18 false rfl rfl rfl rfl rfl (y_move rfl rfl) ?_
          refine hl_yg 8 18 false rfl rfl rfl rfl rfl (y_lenE (lb.length) rfl rfl S22 rfl (rdF hb) (by first | rfl | (simp only [ls_len, ns_len, List.length_append, List.length_take, List.length_drop, List.length_replicate, List.length_cons, List.length_nil, putL_len, shaL_len, overL_len, macKey_len, hmacL_len]; done) | (simp only [ls_len, ns_len, List.length_append, List.length_take, List.length_drop, List.length_replicate, List.length_cons, List.length_nil, putL_len, shaL_len, overL_len, macKey_len, hmacL_len]; omega))) ?_
          refine hl_yg 8 18 false rfl rfl rfl rfl rfl (y_as (y_gtrn (q := 300) rfl rfl rfl ) (congrArg Value.bool (decide_eq_false (by omega)))) ?_
          refine hl_y rfl rfl rfl (y_pick (b := false) rfl rfl rfl) ?_
          refine hl_y rfl rfl rfl (y_move rfl rfl) ?_
          refine hl_yg 13 23 false rfl rfl rfl rfl rfl (y_move rfl rfl) ?_
          refine hl_yg 13 23 false rfl rfl rfl rfl rfl (y_lenE (tl.length) rfl rfl S22 rfl (rdF ht) (by first | rfl | (simp only [ls_len, ns_len, List.length_append, List.length_take, List.length_drop, List.length_replicate, List.length_cons, List.length_nil, putL_len, shaL_len, overL_len, macKey_len, hmacL_len]; done) | (simp only [ls_len, ns_len, List.length_append, List.length_take, List.length_drop, List.length_replicate, List.length_cons, List.length_nil, putL_len, shaL_len, overL_len, macKey_len, hmacL_len]; omega))) ?_
          refine hl_yg 13 23 false rfl rfl rfl rfl rfl (y_as (y_gtrn (q := 100) rfl rfl rfl ) (congrArg Value.bool (decide_eq_true (by omega)))) ?_
          refine hl_y rfl rfl rfl (y_pick (b := false) rfl rfl rfl) ?_
          refine hl_nil ?_
          refine hq_then ?_
          refine hc_ifT rfl ?_
          refine hc_seq ?_
          refine hc_region ?_
          refine hl_i rfl rfl rfl (e_call0 rfl F39 rfl (fun w hw => law08_alive_ct w (hkl.below (Mm.out hw).low)) rfl) ?_; intro _
          refine hl_y rfl rfl rfl (y_assign rfl rfl) ?_
          refine hl_nil ?_
          refine hq_then ?_
          refine hc_ret ?_
          exact hq_then_ret (hq_ret1 (()) rfl (rv_tmp rfl) rfl (fun _ h => Mm.pick h [] (by simp)))
        · skip
          refine hc_region ?_
          refine hl_y rfl rfl rfl (y_move rfl rfl) ?_
          refine hl_y rfl rfl rfl (y_lenE (kl.length) rfl rfl S22 rfl (rdF hk) (by first | rfl | (simp only [ls_len, ns_len, List.length_append, List.length_take, List.length_drop, List.length_replicate, List.length_cons, List.length_nil, putL_len, shaL_len, overL_len, macKey_len, hmacL_len]; done) | (simp only [ls_len, ns_len, List.length_append, List.length_take, List.length_drop, List.length_replicate, List.length_cons, List.length_nil, putL_len, shaL_len, overL_len, macKey_len, hmacL_len]; omega))) ?_
          refine hl_y rfl rfl rfl (y_as (y_gtrn (q := 300) rfl rfl rfl ) (congrArg Value.bool (decide_eq_false (by omega)))) ?_
          refine hl_y rfl rfl rfl (y_move rfl rfl) ?_
          refine hl_yg 3 13 false rfl rfl rfl rfl rfl (y_move rfl rfl) ?_
          refine hl_yg 3 13 false rfl rfl rfl rfl rfl (y_lenE (la.length) rfl rfl S22 rfl (rdF ha) (by first | rfl | (simp only [ls_len, ns_len, List.length_append, List.length_take, List.length_drop, List.length_replicate, List.length_cons, List.length_nil, putL_len, shaL_len, overL_len, macKey_len, hmacL_len]; done) | (simp only [ls_len, ns_len, List.length_append, List.length_take, List.length_drop, List.length_replicate, List.length_cons, List.length_nil, putL_len, shaL_len, overL_len, macKey_len, hmacL_len]; omega))) ?_
          refine hl_yg 3 13 false rfl rfl rfl rfl rfl (y_as (y_gtrn (q := 300) rfl rfl rfl ) (congrArg Value.bool (decide_eq_false (by omega)))) ?_
          refine hl_y rfl rfl rfl (y_pick (b := false) rfl rfl rfl) ?_
          refine hl_y rfl rfl rfl (y_move rfl rfl) ?_
          refine hl_yg 8 18 false rfl rfl rfl rfl rfl (y_move rfl rfl) ?_
          refine hl_yg 8 18 false rfl rfl rfl rfl rfl (y_lenE (lb.length) rfl rfl S22 rfl (rdF hb) (by first | rfl | (simp only [ls_len, ns_len, List.length_append, List.length_take, List.length_drop, List.length_replicate, List.length_cons, List.length_nil, putL_len, shaL_len, overL_len, macKey_len, hmacL_len]; done) | (simp only [ls_len, ns_len, List.length_append, List.length_take, List.length_drop, List.length_replicate, List.length_cons, List.length_nil, putL_len, shaL_len, overL_len, macKey_len, hmacL_len]; omega))) ?_
          refine hl_yg 8 18 false rfl rfl rfl rfl rfl (y_as (y_gtrn (q := 300) rfl rfl rfl ) (congrArg Value.bool (decide_eq_false (by omega)))) ?_
          refine hl_y rfl rfl rfl (y_pick (b := false) rfl rfl rfl) ?_
          refine hl_y rfl rfl rfl (y_move rfl rfl) ?_
          refine hl_yg 13 23 false rfl rfl rfl rfl rfl (y_move rfl rfl) ?_
          refine hl_yg 13 23 false rfl rfl rfl rfl rfl (y_lenE (tl.length) rfl rfl S22 rfl (rdF ht) (by first | rfl | (simp only [ls_len, ns_len, List.length_append, List.length_take, List.length_drop, List.length_replicate, List.length_cons, List.length_nil, putL_len, shaL_len, overL_len, macKey_len, hmacL_len]; done) | (simp only [ls_len, ns_len, List.length_append, List.length_take, List.length_drop, List.length_replicate, List.length_cons, List.length_nil, putL_len, shaL_len, overL_len, macKey_len, hmacL_len]; omega))) ?_
          refine hl_yg 13 23 false rfl rfl rfl rfl rfl (y_as (y_gtrn (q := 100) rfl rfl rfl ) (congrArg Value.bool (decide_eq_false (by omega)))) ?_
          refine hl_y rfl rfl rfl (y_pick (b := false) rfl rfl rfl) ?_
          refine hl_nil ?_
          refine hq_then ?_
          refine hc_ifF rfl ?_
          refine hc_skip ?_
          refine hq_then ?_
          refine hc_seq ?_
          refine hc_region ?_
          refine hl_y rfl rfl rfl (y_move rfl rfl) ?_
          refine hl_y rfl rfl rfl (y_move rfl rfl) ?_
          refine hl_i rfl rfl rfl (e_call rfl F42 rfl (fun w hw => r08_Of_ct kl _ la _ w ((rdF hk) w hw) (by first | omega | (simp only [List.length_append, List.length_take, List.length_drop, List.length_replicate, List.length_cons, List.length_nil, putL_len, shaL_len, overL_len, macKey_len, hmacL_len]; omega) | (simp only [List.length_append, List.length_take, List.length_drop, List.length_replicate, List.length_cons, List.length_nil, putL_len, shaL_len, overL_len, macKey_len, hmacL_len] at *; omega)) ((rdF ha) w hw) (by first | omega | (simp only [List.length_append, List.length_take, List.length_drop, List.length_replicate, List.length_cons, List.length_nil, putL_len, shaL_len, overL_len, macKey_len, hmacL_len]; omega) | (simp only [List.length_append, List.length_take, List.length_drop, List.length_replicate, List.length_cons, List.length_nil, putL_len, shaL_len, overL_len, macKey_len, hmacL_len] at *; omega))) rfl) ?_; intro y31
          refine hl_y rfl rfl rfl (y_assign rfl rfl) ?_
          refine hl_nil ?_
          refine hq_then ?_
          refine hc_seq ?_
          refine hc_region ?_
          refine hl_y rfl rfl rfl (y_move rfl rfl) ?_
          refine hl_y rfl rfl rfl (y_move rfl rfl) ?_
          refine hl_i rfl rfl rfl (e_call rfl F41 rfl (fun w hw => mac_Of_ct kl _ la _ w ((rdF hk) w hw) (by first | omega | (simp only [List.length_append, List.length_take, List.length_drop, List.length_replicate, List.length_cons, List.length_nil, putL_len, shaL_len, overL_len, macKey_len, hmacL_len]; omega) | (simp only [List.length_append, List.length_take, List.length_drop, List.length_replicate, List.length_cons, List.length_nil, putL_len, shaL_len, overL_len, macKey_len, hmacL_len] at *; omega)) ((rdF ha) w hw) (by first | omega | (simp only [List.length_append, List.length_take, List.length_drop, List.length_replicate, List.length_cons, List.length_nil, putL_len, shaL_len, overL_len, macKey_len, hmacL_len]; omega) | (simp only [List.length_append, List.length_take, List.length_drop, List.length_replicate, List.length_cons, List.length_nil, putL_len, shaL_len, overL_len, macKey_len, hmacL_len] at *; omega)) (hkl.below (Mm.out hw).low)) rfl) ?_; intro y34
          refine hl_y rfl rfl rfl (y_move rfl rfl) ?_
          refine hl_i rfl rfl rfl (e_call0 rfl F19 rfl (fun w hw => r01_Same_t _ _ _ _ w ((rdR 0 rfl) w hw) ((rdR 1 rfl) w hw) (by first | omega | (simp only [List.length_append, List.length_take, List.length_drop, List.length_replicate, List.length_cons, List.length_nil, putL_len, shaL_len, overL_len, macKey_len, hmacL_len]; omega) | (simp only [List.length_append, List.length_take, List.length_drop, List.length_replicate, List.length_cons, List.length_nil, putL_len, shaL_len, overL_len, macKey_len, hmacL_len] at *; omega)) (rfl)) rfl) ?_; intro _
          refine hl_y rfl rfl rfl (y_move rfl rfl) ?_
          refine hl_yg 5 37 true rfl rfl rfl rfl rfl (y_move rfl rfl) ?_
          refine hl_ig 5 37 true rfl rfl rfl rfl rfl (e_call rfl F40 rfl (fun w hw => mac_Key_ct kl _ w ((rdF hk) w hw) (by first | omega | (simp only [List.length_append, List.length_take, List.length_drop, List.length_replicate, List.length_cons, List.length_nil, putL_len, shaL_len, overL_len, macKey_len, hmacL_len]; omega) | (simp only [List.length_append, List.length_take, List.length_drop, List.length_replicate, List.length_cons, List.length_nil, putL_len, shaL_len, overL_len, macKey_len, hmacL_len] at *; omega)) (hkl.below (Mm.out hw).low)) rfl) ?_; intro y39
          refine hl_yg 5 37 true rfl rfl rfl rfl rfl (y_move rfl rfl) ?_
          refine hl_ig 5 37 true rfl rfl rfl rfl rfl (e_call rfl F43 rfl (fun w hw => r08_Key_ct kl _ w ((rdF hk) w hw) (by first | omega | (simp only [List.length_append, List.length_take, List.length_drop, List.length_replicate, List.length_cons, List.length_nil, putL_len, shaL_len, overL_len, macKey_len, hmacL_len]; omega) | (simp only [List.length_append, List.length_take, List.length_drop, List.length_replicate, List.length_cons, List.length_nil, putL_len, shaL_len, overL_len, macKey_len, hmacL_len] at *; omega))) rfl) ?_; intro y41
          refine hl_ig 5 37 true rfl rfl rfl rfl rfl (e_call0 rfl F19 rfl (fun w hw => r01_Same_t _ _ _ _ w ((rdR 1 rfl) w hw) ((rdR 0 rfl) w hw) (by first | omega | (simp only [List.length_append, List.length_take, List.length_drop, List.length_replicate, List.length_cons, List.length_nil, putL_len, shaL_len, overL_len, macKey_len, hmacL_len]; omega) | (simp only [List.length_append, List.length_take, List.length_drop, List.length_replicate, List.length_cons, List.length_nil, putL_len, shaL_len, overL_len, macKey_len, hmacL_len] at *; omega)) (rfl)) rfl) ?_; intro _
          refine hl_y rfl rfl rfl (y_pick (b := true) rfl rfl rfl) ?_
          refine hl_y rfl rfl rfl (y_move rfl rfl) ?_
          refine hl_yg 12 44 true rfl rfl rfl rfl rfl (y_move rfl rfl) ?_
          refine hl_yg 12 44 true rfl rfl rfl rfl rfl (y_move rfl rfl) ?_
          refine hl_yg 12 44 true rfl rfl rfl rfl rfl (y_move rfl rfl) ?_
          refine hl_ig 12 44 true rfl rfl rfl rfl rfl (e_call rfl F44 rfl (fun w hw => mac_Two_ct kl _ la lb _ _ w ((rdF hk) w hw) (by omega) ((rdF ha) w hw) (by omega) ((rdF hb) w hw) (by omega) (hkl.below (Mm.out hw).low)) rfl) ?_; intro y48
          refine hl_yg 12 44 true rfl rfl rfl rfl rfl (y_move rfl rfl) ?_
          refine hl_yg 12 44 true rfl rfl rfl rfl rfl (y_move rfl rfl) ?_
          refine hl_yg 12 44 true rfl rfl rfl rfl rfl (y_move rfl rfl) ?_
          refine hl_ig 12 44 true rfl rfl rfl rfl rfl (e_call rfl F45 rfl (fun w hw => r08_Two_ct kl _ la lb _ _ w ((rdF hk) w hw) (by omega) ((rdF ha) w hw) (by omega) ((rdF hb) w hw) (by omega)) rfl) ?_; intro y52
          refine hl_ig 12 44 true rfl rfl rfl rfl rfl (e_call0 rfl F19 rfl (fun w hw => r01_Same_t _ _ _ _ w ((rdR 1 rfl) w hw) ((rdR 0 rfl) w hw) (by first | omega | (simp only [List.length_append, List.length_take, List.length_drop, List.length_replicate, List.length_cons, List.length_nil, putL_len, shaL_len, overL_len, macKey_len, hmacL_len]; omega) | (simp only [List.length_append, List.length_take, List.length_drop, List.length_replicate, List.length_cons, List.length_nil, putL_len, shaL_len, overL_len, macKey_len, hmacL_len] at *; omega)) (rfl)) rfl) ?_; intro _
          refine hl_y rfl rfl rfl (y_pick (b := true) rfl rfl rfl) ?_
          refine hl_y rfl rfl rfl (y_move rfl rfl) ?_
          refine hl_yg 23 55 true rfl rfl rfl rfl rfl (y_move rfl rfl) ?_
          refine hl_yg 23 55 true rfl rfl rfl rfl rfl (y_move rfl rfl) ?_
          refine hl_yg 23 55 true rfl rfl rfl rfl rfl (y_move rfl rfl) ?_
          refine hl_ig 23 55 true rfl rfl rfl rfl rfl (e_call0 rfl F46 rfl (fun w hw => mac_Check_ct kl _ la _ tl _ w ((rdF hk) w hw) (by first | omega | (simp only [List.length_append, List.length_take, List.length_drop, List.length_replicate, List.length_cons, List.length_nil, putL_len, shaL_len, overL_len, macKey_len, hmacL_len]; omega) | (simp only [List.length_append, List.length_take, List.length_drop, List.length_replicate, List.length_cons, List.length_nil, putL_len, shaL_len, overL_len, macKey_len, hmacL_len] at *; omega)) ((rdF ha) w hw) (by first | omega | (simp only [List.length_append, List.length_take, List.length_drop, List.length_replicate, List.length_cons, List.length_nil, putL_len, shaL_len, overL_len, macKey_len, hmacL_len]; omega) | (simp only [List.length_append, List.length_take, List.length_drop, List.length_replicate, List.length_cons, List.length_nil, putL_len, shaL_len, overL_len, macKey_len, hmacL_len] at *; omega)) ((rdF ht) w hw) (hkl.below (Mm.out hw).low)) rfl) ?_; intro _
          refine hl_yg 23 55 true rfl rfl rfl rfl rfl (y_move rfl rfl) ?_
          refine hl_yg 23 55 true rfl rfl rfl rfl rfl (y_move rfl rfl) ?_
          refine hl_ig 23 55 true rfl rfl rfl rfl rfl (e_call0 rfl F19 rfl (fun w hw => r01_Same_ct _ _ _ _ w ((rdR 5 rfl) w hw) ((rdF ht) w hw) (by first | omega | (simp only [List.length_append, List.length_take, List.length_drop, List.length_replicate, List.length_cons, List.length_nil, putL_len, shaL_len, overL_len, macKey_len, hmacL_len]; omega) | (simp only [List.length_append, List.length_take, List.length_drop, List.length_replicate, List.length_cons, List.length_nil, putL_len, shaL_len, overL_len, macKey_len, hmacL_len] at *; omega))) rfl) ?_; intro _
          refine hl_yg 23 55 true rfl rfl rfl rfl rfl (y_as (y_eqlbool U4 rfl rfl rfl) (congrArg Value.bool (beq_self _))) ?_
          refine hl_y rfl rfl rfl (y_pick (b := true) rfl rfl rfl) ?_
          refine hl_y rfl rfl rfl (y_move rfl rfl) ?_
          refine hl_yg 33 65 true rfl rfl rfl rfl rfl (y_move rfl rfl) ?_
          refine hl_yg 33 65 true rfl rfl rfl rfl rfl (y_move rfl rfl) ?_
          refine hl_yg 33 65 true rfl rfl rfl rfl rfl (y_move rfl rfl) ?_
          refine hl_ig 33 65 true rfl rfl rfl rfl rfl (e_call0 rfl F46 rfl (fun w hw => mac_Check_t kl _ la _ (hmacL kl la) _ w ((rdF hk) w hw) (by first | omega | (simp only [List.length_append, List.length_take, List.length_drop, List.length_replicate, List.length_cons, List.length_nil, putL_len, shaL_len, overL_len, macKey_len, hmacL_len]; omega) | (simp only [List.length_append, List.length_take, List.length_drop, List.length_replicate, List.length_cons, List.length_nil, putL_len, shaL_len, overL_len, macKey_len, hmacL_len] at *; omega)) ((rdF ha) w hw) (by first | omega | (simp only [List.length_append, List.length_take, List.length_drop, List.length_replicate, List.length_cons, List.length_nil, putL_len, shaL_len, overL_len, macKey_len, hmacL_len]; omega) | (simp only [List.length_append, List.length_take, List.length_drop, List.length_replicate, List.length_cons, List.length_nil, putL_len, shaL_len, overL_len, macKey_len, hmacL_len] at *; omega)) ((rdR 5 rfl) w hw) (hkl.below (Mm.out hw).low) (rfl)) rfl) ?_; intro _
          refine hl_y rfl rfl rfl (y_pick (b := true) rfl rfl rfl) ?_
          refine hl_y rfl rfl rfl (y_move rfl rfl) ?_
          refine hl_ig 39 71 true rfl rfl rfl rfl rfl (e_call0 rfl F39 rfl (fun w hw => law08_alive_ct w (hkl.below (Mm.out hw).low)) rfl) ?_; intro _
          refine hl_y rfl rfl rfl (y_pick (b := true) rfl rfl rfl) ?_
          refine hl_y rfl rfl rfl (y_assign rfl rfl) ?_
          refine hl_nil ?_
          refine hq_then ?_
          refine hc_ret ?_
          exact hq_ret1 (()) rfl (rv_tmp rfl) rfl (fun _ h => Mm.pick h [] (by simp))

set_option maxHeartbeats 1000000 in
theorem macKeys_p (kl : List UInt8) (kv : Value) (tl : List UInt8) (tv : Value) (n : Nat) (hn : n ≤ 9223372036854775807) (w : World) (hk : Rd w kv (ls vb kl)) (mk : kl.length ≤ 9223372036854775807) (ht : Rd w tv (ls vb tl)) (mt : tl.length ≤ 9223372036854775807) (hkl : KL w) : Ct0 Tryd.prog 9 #[kv, tv, vi n] w (.bool true) := by
  refine ct0_of Tryd.func9 rfl Tryd.ntmps9 rfl ?_
  refine hc_seq ?_
  refine hc_region ?_
  refine hl_y rfl rfl rfl (y_assign rfl rfl) ?_
  refine hl_nil ?_
  refine hq_then ?_
  refine hc_seq ?_
  refine hc_seq ?_
  rcases Decidable.em (300 < kl.length) with k0 | k0
  · skip
    refine hc_region ?_
    refine hl_y rfl rfl rfl (y_move rfl rfl) ?_
    refine hl_y rfl rfl rfl (y_lenE (kl.length) rfl rfl S22 rfl (rdF hk) (by first | rfl | (simp only [ls_len, ns_len, List.length_append, List.length_take, List.length_drop, List.length_replicate, List.length_cons, List.length_nil, putL_len, shaL_len, overL_len, macKey_len, hmacL_len]; done) | (simp only [ls_len, ns_len, List.length_append, List.length_take, List.length_drop, List.length_replicate, List.length_cons, List.length_nil, putL_len, shaL_len, overL_len, macKey_len, hmacL_len]; omega))) ?_
    refine hl_y rfl rfl rfl (y_as (y_gtrn (q := 300) rfl rfl rfl ) (congrArg Value.bool (decide_eq_true (by omega)))) ?_
    refine hl_y rfl rfl rfl (y_move rfl rfl) ?_
    refine hl_no 3 11 false true rfl rfl rfl rfl rfl rfl ?_
    refine hl_no 3 11 false true rfl rfl rfl rfl rfl rfl ?_
    refine hl_no 3 11 false true rfl rfl rfl rfl rfl rfl ?_
    refine hl_y rfl rfl rfl (y_pick (b := true) rfl rfl rfl) ?_
    refine hl_nil ?_
    refine hq_then ?_
    refine hc_ifT rfl ?_
    refine hc_seq ?_
    refine hc_region ?_
    refine hl_i rfl rfl rfl (e_call0 rfl F39 rfl (fun w hw => law08_alive_ct w (hkl.below (Mm.out hw).low)) rfl) ?_; intro _
    refine hl_y rfl rfl rfl (y_assign rfl rfl) ?_
    refine hl_nil ?_
    refine hq_then ?_
    refine hc_ret ?_
    exact hq_then_ret (hq_ret1 (()) rfl (rv_tmp rfl) rfl (fun _ h => Mm.pick h [] (by simp)))
  · skip
    rcases Decidable.em (300 < tl.length) with k1 | k1
    · skip
      refine hc_region ?_
      refine hl_y rfl rfl rfl (y_move rfl rfl) ?_
      refine hl_y rfl rfl rfl (y_lenE (kl.length) rfl rfl S22 rfl (rdF hk) (by first | rfl | (simp only [ls_len, ns_len, List.length_append, List.length_take, List.length_drop, List.length_replicate, List.length_cons, List.length_nil, putL_len, shaL_len, overL_len, macKey_len, hmacL_len]; done) | (simp only [ls_len, ns_len, List.length_append, List.length_take, List.length_drop, List.length_replicate, List.length_cons, List.length_nil, putL_len, shaL_len, overL_len, macKey_len, hmacL_len]; omega))) ?_
      refine hl_y rfl rfl rfl (y_as (y_gtrn (q := 300) rfl rfl rfl ) (congrArg Value.bool (decide_eq_false (by omega)))) ?_
      refine hl_y rfl rfl rfl (y_move rfl rfl) ?_
      refine hl_yg 3 11 false rfl rfl rfl rfl rfl (y_move rfl rfl) ?_
      refine hl_yg 3 11 false rfl rfl rfl rfl rfl (y_lenE (tl.length) rfl rfl S22 rfl (rdF ht) (by first | rfl | (simp only [ls_len, ns_len, List.length_append, List.length_take, List.length_drop, List.length_replicate, List.length_cons, List.length_nil, putL_len, shaL_len, overL_len, macKey_len, hmacL_len]; done) | (simp only [ls_len, ns_len, List.length_append, List.length_take, List.length_drop, List.length_replicate, List.length_cons, List.length_nil, putL_len, shaL_len, overL_len, macKey_len, hmacL_len]; omega))) ?_
      refine hl_yg 3 11 false rfl rfl rfl rfl rfl (y_as (y_gtrn (q := 300) rfl rfl rfl ) (congrArg Value.bool (decide_eq_true (by omega)))) ?_
      refine hl_y rfl rfl rfl (y_pick (b := false) rfl rfl rfl) ?_
      refine hl_nil ?_
      refine hq_then ?_
      refine hc_ifT rfl ?_
      refine hc_seq ?_
      refine hc_region ?_
      refine hl_i rfl rfl rfl (e_call0 rfl F39 rfl (fun w hw => law08_alive_ct w (hkl.below (Mm.out hw).low)) rfl) ?_; intro _
      refine hl_y rfl rfl rfl (y_assign rfl rfl) ?_
      refine hl_nil ?_
      refine hq_then ?_
      refine hc_ret ?_
      exact hq_then_ret (hq_ret1 (()) rfl (rv_tmp rfl) rfl (fun _ h => Mm.pick h [] (by simp)))
    · skip
      refine hc_region ?_
      refine hl_y rfl rfl rfl (y_move rfl rfl) ?_
      refine hl_y rfl rfl rfl (y_lenE (kl.length) rfl rfl S22 rfl (rdF hk) (by first | rfl | (simp only [ls_len, ns_len, List.length_append, List.length_take, List.length_drop, List.length_replicate, List.length_cons, List.length_nil, putL_len, shaL_len, overL_len, macKey_len, hmacL_len]; done) | (simp only [ls_len, ns_len, List.length_append, List.length_take, List.length_drop, List.length_replicate, List.length_cons, List.length_nil, putL_len, shaL_len, overL_len, macKey_len, hmacL_len]; omega))) ?_
      refine hl_y rfl rfl rfl (y_as (y_gtrn (q := 300) rfl rfl rfl ) (congrArg Value.bool (decide_eq_false (by omega)))) ?_
      refine hl_y rfl rfl rfl (y_move rfl rfl) ?_
      refine hl_yg 3 11 false rfl rfl rfl rfl rfl (y_move rfl rfl) ?_
      refine hl_yg 3 11 false rfl rfl rfl rfl rfl (y_lenE (tl.length) rfl rfl S22 rfl (rdF ht) (by first | rfl | (simp only [ls_len, ns_len, List.length_append, List.length_take, List.length_drop, List.length_replicate, List.length_cons, List.length_nil, putL_len, shaL_len, overL_len, macKey_len, hmacL_len]; done) | (simp only [ls_len, ns_len, List.length_append, List.length_take, List.length_drop, List.length_replicate, List.length_cons, List.length_nil, putL_len, shaL_len, overL_len, macKey_len, hmacL_len]; omega))) ?_
      refine hl_yg 3 11 false rfl rfl rfl rfl rfl (y_as (y_gtrn (q := 300) rfl rfl rfl ) (congrArg Value.bool (decide_eq_false (by omega)))) ?_
      refine hl_y rfl rfl rfl (y_pick (b := false) rfl rfl rfl) ?_
      refine hl_nil ?_
      refine hq_then ?_
      refine hc_ifF rfl ?_
      refine hc_skip ?_
      refine hq_then ?_
      refine hc_seq ?_
      refine hc_region ?_
      refine hl_y rfl rfl rfl (y_move rfl rfl) ?_
      refine hl_i rfl rfl rfl (e_call rfl F40 rfl (fun w hw => mac_Key_ct kl _ w ((rdF hk) w hw) (by first | omega | (simp only [List.length_append, List.length_take, List.length_drop, List.length_replicate, List.length_cons, List.length_nil, putL_len, shaL_len, overL_len, macKey_len, hmacL_len]; omega) | (simp only [List.length_append, List.length_take, List.length_drop, List.length_replicate, List.length_cons, List.length_nil, putL_len, shaL_len, overL_len, macKey_len, hmacL_len] at *; omega)) (hkl.below (Mm.out hw).low)) rfl) ?_; intro y18
      refine hl_y rfl rfl rfl (y_assign rfl rfl) ?_
      refine hl_nil ?_
      refine hq_then ?_
      refine hc_seq ?_
      refine hc_seq ?_
      refine hc_region ?_
      refine hl_y rfl rfl rfl (y_move rfl rfl) ?_
      refine hl_y rfl rfl rfl (y_lenE (64) rfl rfl S22 rfl (rdR 0 rfl) (by first | rfl | (simp only [ls_len, ns_len, List.length_append, List.length_take, List.length_drop, List.length_replicate, List.length_cons, List.length_nil, putL_len, shaL_len, overL_len, macKey_len, hmacL_len]; done) | (simp only [ls_len, ns_len, List.length_append, List.length_take, List.length_drop, List.length_replicate, List.length_cons, List.length_nil, putL_len, shaL_len, overL_len, macKey_len, hmacL_len]; omega))) ?_
      refine hl_y rfl rfl rfl (y_as (y_neqn (q := 64) rfl rfl rfl ) (congrArg Value.bool (decide_eq_false (by omega)))) ?_
      refine hl_y rfl rfl rfl (y_move rfl rfl) ?_
      refine hl_yg 3 22 false rfl rfl rfl rfl rfl (y_move rfl rfl) ?_
      refine hl_yg 3 22 false rfl rfl rfl rfl rfl (y_move rfl rfl) ?_
      refine hl_ig 3 22 false rfl rfl rfl rfl rfl (e_call rfl F41 rfl (fun w hw => mac_Of_ct (macKey kl) _ tl _ w ((rdR 0 rfl) w hw) (by first | omega | (simp only [List.length_append, List.length_take, List.length_drop, List.length_replicate, List.length_cons, List.length_nil, putL_len, shaL_len, overL_len, macKey_len, hmacL_len]; omega) | (simp only [List.length_append, List.length_take, List.length_drop, List.length_replicate, List.length_cons, List.length_nil, putL_len, shaL_len, overL_len, macKey_len, hmacL_len] at *; omega)) ((rdF ht) w hw) (by first | omega | (simp only [List.length_append, List.length_take, List.length_drop, List.length_replicate, List.length_cons, List.length_nil, putL_len, shaL_len, overL_len, macKey_len, hmacL_len]; omega) | (simp only [List.length_append, List.length_take, List.length_drop, List.length_replicate, List.length_cons, List.length_nil, putL_len, shaL_len, overL_len, macKey_len, hmacL_len] at *; omega)) (hkl.below (Mm.out hw).low)) rfl) ?_; intro y25
      refine hl_yg 3 22 false rfl rfl rfl rfl rfl (y_move rfl rfl) ?_
      refine hl_yg 3 22 false rfl rfl rfl rfl rfl (y_move rfl rfl) ?_
      refine hl_ig 3 22 false rfl rfl rfl rfl rfl (e_call rfl F41 rfl (fun w hw => mac_Of_ct kl _ tl _ w ((rdF hk) w hw) (by first | omega | (simp only [List.length_append, List.length_take, List.length_drop, List.length_replicate, List.length_cons, List.length_nil, putL_len, shaL_len, overL_len, macKey_len, hmacL_len]; omega) | (simp only [List.length_append, List.length_take, List.length_drop, List.length_replicate, List.length_cons, List.length_nil, putL_len, shaL_len, overL_len, macKey_len, hmacL_len] at *; omega)) ((rdF ht) w hw) (by first | omega | (simp only [List.length_append, List.length_take, List.length_drop, List.length_replicate, List.length_cons, List.length_nil, putL_len, shaL_len, overL_len, macKey_len, hmacL_len]; omega) | (simp only [List.length_append, List.length_take, List.length_drop, List.length_replicate, List.length_cons, List.length_nil, putL_len, shaL_len, overL_len, macKey_len, hmacL_len] at *; omega)) (hkl.below (Mm.out hw).low)) rfl) ?_; intro y28
      refine hl_ig 3 22 false rfl rfl rfl rfl rfl (e_call0 rfl F19 rfl (fun w hw => r01_Same_t _ _ _ _ w ((rdR 1 rfl) w hw) ((rdR 0 rfl) w hw) (by first | omega | (simp only [List.length_append, List.length_take, List.length_drop, List.length_replicate, List.length_cons, List.length_nil, putL_len, shaL_len, overL_len, macKey_len, hmacL_len]; omega) | (simp only [List.length_append, List.length_take, List.length_drop, List.length_replicate, List.length_cons, List.length_nil, putL_len, shaL_len, overL_len, macKey_len, hmacL_len] at *; omega)) (hmac_key kl tl)) rfl) ?_; intro _
      refine hl_yg 3 22 false rfl rfl rfl rfl rfl (y_not rfl rfl) ?_
      refine hl_y rfl rfl rfl (y_pick (b := false) rfl rfl rfl) ?_
      refine hl_nil ?_
      refine hq_then ?_
      refine hc_ifF rfl ?_
      refine hc_skip ?_
      refine hq_then ?_
      refine hc_seq ?_
      refine hc_seq ?_
      rcases Decidable.em (kl.length < 64) with k2 | k2
      · skip
        rcases Decidable.em (n + kl.length ≤ 64) with k3 | k3
        · skip
          refine hc_region ?_
          refine hl_y rfl rfl rfl (y_move rfl rfl) ?_
          refine hl_y rfl rfl rfl (y_lenE (kl.length) rfl rfl S22 rfl (rdF hk) (by first | rfl | (simp only [ls_len, ns_len, List.length_append, List.length_take, List.length_drop, List.length_replicate, List.length_cons, List.length_nil, putL_len, shaL_len, overL_len, macKey_len, hmacL_len]; done) | (simp only [ls_len, ns_len, List.length_append, List.length_take, List.length_drop, List.length_replicate, List.length_cons, List.length_nil, putL_len, shaL_len, overL_len, macKey_len, hmacL_len]; omega))) ?_
          refine hl_y rfl rfl rfl (y_as (y_lssn (q := 64) rfl rfl rfl ) (congrArg Value.bool (decide_eq_true (by omega)))) ?_
          refine hl_y rfl rfl rfl (y_move rfl rfl) ?_
          refine hl_yg 3 35 true rfl rfl rfl rfl rfl (y_move rfl rfl) ?_
          refine hl_yg 3 35 true rfl rfl rfl rfl rfl (y_as (y_geqn (q := 0) rfl rfl rfl ) (congrArg Value.bool (decide_eq_true (by omega)))) ?_
          refine hl_y rfl rfl rfl (y_pick (b := true) rfl rfl rfl) ?_
          refine hl_y rfl rfl rfl (y_move rfl rfl) ?_
          refine hl_yg 7 39 true rfl rfl rfl rfl rfl (y_move rfl rfl) ?_
          refine hl_yg 7 39 true rfl rfl rfl rfl rfl (y_move rfl rfl) ?_
          refine hl_yg 7 39 true rfl rfl rfl rfl rfl (y_lenE (kl.length) rfl rfl S22 rfl (rdF hk) (by first | rfl | (simp only [ls_len, ns_len, List.length_append, List.length_take, List.length_drop, List.length_replicate, List.length_cons, List.length_nil, putL_len, shaL_len, overL_len, macKey_len, hmacL_len]; done) | (simp only [ls_len, ns_len, List.length_append, List.length_take, List.length_drop, List.length_replicate, List.length_cons, List.length_nil, putL_len, shaL_len, overL_len, macKey_len, hmacL_len]; omega))) ?_
          refine hl_yg 7 39 true rfl rfl rfl rfl rfl (y_subn (p := 64) rfl rfl rfl (by first | omega | (simp only [ls_len, ns_len, List.length_append, List.length_take, List.length_drop, List.length_replicate, List.length_cons, List.length_nil, putL_len, shaL_len, overL_len, macKey_len, hmacL_len]; omega) | (simp only [ls_len, ns_len, List.length_append, List.length_take, List.length_drop, List.length_replicate, List.length_cons, List.length_nil, putL_len, shaL_len, overL_len, macKey_len, hmacL_len] at *; omega)) (by first | omega | (simp only [ls_len, ns_len, List.length_append, List.length_take, List.length_drop, List.length_replicate, List.length_cons, List.length_nil, putL_len, shaL_len, overL_len, macKey_len, hmacL_len]; omega) | (simp only [ls_len, ns_len, List.length_append, List.length_take, List.length_drop, List.length_replicate, List.length_cons, List.length_nil, putL_len, shaL_len, overL_len, macKey_len, hmacL_len] at *; omega))) ?_
          refine hl_yg 7 39 true rfl rfl rfl rfl rfl (y_as (y_leqn rfl rfl rfl ) (congrArg Value.bool (decide_eq_true (by omega)))) ?_
          refine hl_y rfl rfl rfl (y_pick (b := true) rfl rfl rfl) ?_
          refine hl_nil ?_
          refine hq_then ?_
          refine hc_ifT rfl ?_
          refine hc_seq ?_
          refine hc_region ?_
          refine hl_y rfl rfl rfl (y_move rfl rfl) ?_
          refine hl_y rfl rfl rfl (y_move rfl rfl) ?_
          refine hl_i rfl rfl rfl (e_make rfl S22 M5 rfl rfl rfl (by first | omega | (simp only [ls_len, ns_len, List.length_append, List.length_take, List.length_drop, List.length_replicate, List.length_cons, List.length_nil, putL_len, shaL_len, overL_len, macKey_len, hmacL_len]; omega) | (simp only [ls_len, ns_len, List.length_append, List.length_take, List.length_drop, List.length_replicate, List.length_cons, List.length_nil, putL_len, shaL_len, overL_len, macKey_len, hmacL_len] at *; omega)) (by first | omega | (simp only [ls_len, ns_len, List.length_append, List.length_take, List.length_drop, List.length_replicate, List.length_cons, List.length_nil, putL_len, shaL_len, overL_len, macKey_len, hmacL_len]; omega) | (simp only [ls_len, ns_len, List.length_append, List.length_take, List.length_drop, List.length_replicate, List.length_cons, List.length_nil, putL_len, shaL_len, overL_len, macKey_len, hmacL_len] at *; omega)) (by first | omega | (simp only [ls_len, ns_len, List.length_append, List.length_take, List.length_drop, List.length_replicate, List.length_cons, List.length_nil, putL_len, shaL_len, overL_len, macKey_len, hmacL_len]; omega) | (simp only [ls_len, ns_len, List.length_append, List.length_take, List.length_drop, List.length_replicate, List.length_cons, List.length_nil, putL_len, shaL_len, overL_len, macKey_len, hmacL_len] at *; omega))) ?_; intro g48
          refine hl_i rfl rfl rfl (e_call rfl F32 rfl (fun w hw => r01_Join_ct kl (List.replicate n 0) _ _ w ((rdF hk) w hw) ((rdZ 0 rfl) w hw) (by first | omega | (simp only [List.length_append, List.length_take, List.length_drop, List.length_replicate, List.length_cons, List.length_nil, putL_len, shaL_len, overL_len, macKey_len, hmacL_len]; omega) | (simp only [List.length_append, List.length_take, List.length_drop, List.length_replicate, List.length_cons, List.length_nil, putL_len, shaL_len, overL_len, macKey_len, hmacL_len] at *; omega))) rfl) ?_; intro y49
          refine hl_y rfl rfl rfl (y_move rfl rfl) ?_
          refine hl_i rfl rfl rfl (e_call rfl F41 rfl (fun w hw => mac_Of_ct (kl ++ List.replicate n 0) _ tl _ w ((rdR 0 rfl) w hw) (by first | omega | (simp only [List.length_append, List.length_take, List.length_drop, List.length_replicate, List.length_cons, List.length_nil, putL_len, shaL_len, overL_len, macKey_len, hmacL_len]; omega) | (simp only [List.length_append, List.length_take, List.length_drop, List.length_replicate, List.length_cons, List.length_nil, putL_len, shaL_len, overL_len, macKey_len, hmacL_len] at *; omega)) ((rdF ht) w hw) (by first | omega | (simp only [List.length_append, List.length_take, List.length_drop, List.length_replicate, List.length_cons, List.length_nil, putL_len, shaL_len, overL_len, macKey_len, hmacL_len]; omega) | (simp only [List.length_append, List.length_take, List.length_drop, List.length_replicate, List.length_cons, List.length_nil, putL_len, shaL_len, overL_len, macKey_len, hmacL_len] at *; omega)) (hkl.below (Mm.out hw).low)) rfl) ?_; intro y51
          refine hl_y rfl rfl rfl (y_move rfl rfl) ?_
          refine hl_y rfl rfl rfl (y_move rfl rfl) ?_
          refine hl_i rfl rfl rfl (e_call rfl F41 rfl (fun w hw => mac_Of_ct kl _ tl _ w ((rdF hk) w hw) (by first | omega | (simp only [List.length_append, List.length_take, List.length_drop, List.length_replicate, List.length_cons, List.length_nil, putL_len, shaL_len, overL_len, macKey_len, hmacL_len]; omega) | (simp only [List.length_append, List.length_take, List.length_drop, List.length_replicate, List.length_cons, List.length_nil, putL_len, shaL_len, overL_len, macKey_len, hmacL_len] at *; omega)) ((rdF ht) w hw) (by first | omega | (simp only [List.length_append, List.length_take, List.length_drop, List.length_replicate, List.length_cons, List.length_nil, putL_len, shaL_len, overL_len, macKey_len, hmacL_len]; omega) | (simp only [List.length_append, List.length_take, List.length_drop, List.length_replicate, List.length_cons, List.length_nil, putL_len, shaL_len, overL_len, macKey_len, hmacL_len] at *; omega)) (hkl.below (Mm.out hw).low)) rfl) ?_; intro y54
          refine hl_i rfl rfl rfl (e_call0 rfl F19 rfl (fun w hw => r01_Same_t _ _ _ _ w ((rdR 1 rfl) w hw) ((rdR 0 rfl) w hw) (by first | omega | (simp only [List.length_append, List.length_take, List.length_drop, List.length_replicate, List.length_cons, List.length_nil, putL_len, shaL_len, overL_len, macKey_len, hmacL_len]; omega) | (simp only [List.length_append, List.length_take, List.length_drop, List.length_replicate, List.length_cons, List.length_nil, putL_len, shaL_len, overL_len, macKey_len, hmacL_len] at *; omega)) (hmac_more (by omega))) rfl) ?_; intro _
          refine hl_y rfl rfl rfl (y_move rfl rfl) ?_
          refine hl_ig 10 56 true rfl rfl rfl rfl rfl (e_call0 rfl F39 rfl (fun w hw => law08_alive_ct w (hkl.below (Mm.out hw).low)) rfl) ?_; intro _
          refine hl_y rfl rfl rfl (y_pick (b := true) rfl rfl rfl) ?_
          refine hl_y rfl rfl rfl (y_assign rfl rfl) ?_
          refine hl_nil ?_
          refine hq_then ?_
          refine hc_ret ?_
          exact hq_then_ret (hq_ret1 (()) rfl (rv_tmp rfl) rfl (fun _ h => Mm.pick h [] (by simp)))
        · skip
          refine hc_region ?_
          refine hl_y rfl rfl rfl (y_move rfl rfl) ?_
          refine hl_y rfl rfl rfl (y_lenE (kl.length) rfl rfl S22 rfl (rdF hk) (by first | rfl | (simp only [ls_len, ns_len, List.length_append, List.length_take, List.length_drop, List.length_replicate, List.length_cons, List.length_nil, putL_len, shaL_len, overL_len, macKey_len, hmacL_len]; done) | (simp only [ls_len, ns_len, List.length_append, List.length_take, List.length_drop, List.length_replicate, List.length_cons, List.length_nil, putL_len, shaL_len, overL_len, macKey_len, hmacL_len]; omega))) ?_
          refine hl_y rfl rfl rfl (y_as (y_lssn (q := 64) rfl rfl rfl ) (congrArg Value.bool (decide_eq_true (by omega)))) ?_
          refine hl_y rfl rfl rfl (y_move rfl rfl) ?_
          refine hl_yg 3 35 true rfl rfl rfl rfl rfl (y_move rfl rfl) ?_
          refine hl_yg 3 35 true rfl rfl rfl rfl rfl (y_as (y_geqn (q := 0) rfl rfl rfl ) (congrArg Value.bool (decide_eq_true (by omega)))) ?_
          refine hl_y rfl rfl rfl (y_pick (b := true) rfl rfl rfl) ?_
          refine hl_y rfl rfl rfl (y_move rfl rfl) ?_
          refine hl_yg 7 39 true rfl rfl rfl rfl rfl (y_move rfl rfl) ?_
          refine hl_yg 7 39 true rfl rfl rfl rfl rfl (y_move rfl rfl) ?_
          refine hl_yg 7 39 true rfl rfl rfl rfl rfl (y_lenE (kl.length) rfl rfl S22 rfl (rdF hk) (by first | rfl | (simp only [ls_len, ns_len, List.length_append, List.length_take, List.length_drop, List.length_replicate, List.length_cons, List.length_nil, putL_len, shaL_len, overL_len, macKey_len, hmacL_len]; done) | (simp only [ls_len, ns_len, List.length_append, List.length_take, List.length_drop, List.length_replicate, List.length_cons, List.length_nil, putL_len, shaL_len, overL_len, macKey_len, hmacL_len]; omega))) ?_
          refine hl_yg 7 39 true rfl rfl rfl rfl rfl (y_subn (p := 64) rfl rfl rfl (by first | omega | (simp only [ls_len, ns_len, List.length_append, List.length_take, List.length_drop, List.length_replicate, List.length_cons, List.length_nil, putL_len, shaL_len, overL_len, macKey_len, hmacL_len]; omega) | (simp only [ls_len, ns_len, List.length_append, List.length_take, List.length_drop, List.length_replicate, List.length_cons, List.length_nil, putL_len, shaL_len, overL_len, macKey_len, hmacL_len] at *; omega)) (by first | omega | (simp only [ls_len, ns_len, List.length_append, List.length_take, List.length_drop, List.length_replicate, List.length_cons, List.length_nil, putL_len, shaL_len, overL_len, macKey_len, hmacL_len]; omega) | (simp only [ls_len, ns_len, List.length_append, List.length_take, List.length_drop, List.length_replicate, List.length_cons, List.length_nil, putL_len, shaL_len, overL_len, macKey_len, hmacL_len] at *; omega))) ?_
          refine hl_yg 7 39 true rfl rfl rfl rfl rfl (y_as (y_leqn rfl rfl rfl ) (congrArg Value.bool (decide_eq_false (by omega)))) ?_
          refine hl_y rfl rfl rfl (y_pick (b := true) rfl rfl rfl) ?_
          refine hl_nil ?_
          refine hq_then ?_
          refine hc_ifF rfl ?_
          refine hc_skip ?_
          refine hq_then ?_
          refine hc_seq ?_
          refine hc_region ?_
          refine hl_i rfl rfl rfl (e_call0 rfl F39 rfl (fun w hw => law08_alive_ct w (hkl.below (Mm.out hw).low)) rfl) ?_; intro _
          refine hl_y rfl rfl rfl (y_assign rfl rfl) ?_
          refine hl_nil ?_
          refine hq_then ?_
          refine hc_ret ?_
          exact hq_ret1 (()) rfl (rv_tmp rfl) rfl (fun _ h => Mm.pick h [] (by simp))
      · skip
        refine hc_region ?_
        refine hl_y rfl rfl rfl (y_move rfl rfl) ?_
        refine hl_y rfl rfl rfl (y_lenE (kl.length) rfl rfl S22 rfl (rdF hk) (by first | rfl | (simp only [ls_len, ns_len, List.length_append, List.length_take, List.length_drop, List.length_replicate, List.length_cons, List.length_nil, putL_len, shaL_len, overL_len, macKey_len, hmacL_len]; done) | (simp only [ls_len, ns_len, List.length_append, List.length_take, List.length_drop, List.length_replicate, List.length_cons, List.length_nil, putL_len, shaL_len, overL_len, macKey_len, hmacL_len]; omega))) ?_
        refine hl_y rfl rfl rfl (y_as (y_lssn (q := 64) rfl rfl rfl ) (congrArg Value.bool (decide_eq_false (by omega)))) ?_
        refine hl_y rfl rfl rfl (y_move rfl rfl) ?_
        refine hl_no 3 35 true false rfl rfl rfl rfl rfl rfl ?_
        refine hl_no 3 35 true false rfl rfl rfl rfl rfl rfl ?_
        refine hl_y rfl rfl rfl (y_pick (b := false) rfl rfl rfl) ?_
        refine hl_y rfl rfl rfl (y_move rfl rfl) ?_
        refine hl_no 7 39 true false rfl rfl rfl rfl rfl rfl ?_
        refine hl_no 7 39 true false rfl rfl rfl rfl rfl rfl ?_
        refine hl_no 7 39 true false rfl rfl rfl rfl rfl rfl ?_
        refine hl_no 7 39 true false rfl rfl rfl rfl rfl rfl ?_
        refine hl_no 7 39 true false rfl rfl rfl rfl rfl rfl ?_
        refine hl_y rfl rfl rfl (y_pick (b := false) rfl rfl rfl) ?_
        refine hl_nil ?_
        refine hq_then ?_
        refine hc_ifF rfl ?_
        refine hc_skip ?_
        refine hq_then ?_
        refine hc_seq ?_
        refine hc_region ?_
        refine hl_i rfl rfl rfl (e_call0 rfl F39 rfl (fun w hw => law08_alive_ct w (hkl.below (Mm.out hw).low)) rfl) ?_; intro _
        refine hl_y rfl rfl rfl (y_assign rfl rfl) ?_
        refine hl_nil ?_
        refine hq_then ?_
        refine hc_ret ?_
        exact hq_ret1 (()) rfl (rv_tmp rfl) rfl (fun _ h => Mm.pick h [] (by simp))

set_option maxHeartbeats 1000000 in
theorem macKeys_n (kl : List UInt8) (kv : Value) (tl : List UInt8) (tv : Value) (n : Int) (hb : -9223372036854775808 ≤ n) (hn : n < 0) (w : World) (hk : Rd w kv (ls vb kl)) (mk : kl.length ≤ 9223372036854775807) (ht : Rd w tv (ls vb tl)) (mt : tl.length ≤ 9223372036854775807) (hkl : KL w) : Ct0 Tryd.prog 9 #[kv, tv, .int .i64 n] w (.bool true) := by
  refine ct0_of Tryd.func9 rfl Tryd.ntmps9 rfl ?_
  refine hc_seq ?_
  refine hc_region ?_
  refine hl_y rfl rfl rfl (y_assign rfl rfl) ?_
  refine hl_nil ?_
  refine hq_then ?_
  refine hc_seq ?_
  refine hc_seq ?_
  rcases Decidable.em (300 < kl.length) with k0 | k0
  · skip
    refine hc_region ?_
    refine hl_y rfl rfl rfl (y_move rfl rfl) ?_
    refine hl_y rfl rfl rfl (y_lenE (kl.length) rfl rfl S22 rfl (rdF hk) (by first | rfl | (simp only [ls_len, ns_len, List.length_append, List.length_take, List.length_drop, List.length_replicate, List.length_cons, List.length_nil, putL_len, shaL_len, overL_len, macKey_len, hmacL_len]; done) | (simp only [ls_len, ns_len, List.length_append, List.length_take, List.length_drop, List.length_replicate, List.length_cons, List.length_nil, putL_len, shaL_len, overL_len, macKey_len, hmacL_len]; omega))) ?_
    refine hl_y rfl rfl rfl (y_as (y_gtrn (q := 300) rfl rfl rfl ) (congrArg Value.bool (decide_eq_true (by omega)))) ?_
    refine hl_y rfl rfl rfl (y_move rfl rfl) ?_
    refine hl_no 3 11 false true rfl rfl rfl rfl rfl rfl ?_
    refine hl_no 3 11 false true rfl rfl rfl rfl rfl rfl ?_
    refine hl_no 3 11 false true rfl rfl rfl rfl rfl rfl ?_
    refine hl_y rfl rfl rfl (y_pick (b := true) rfl rfl rfl) ?_
    refine hl_nil ?_
    refine hq_then ?_
    refine hc_ifT rfl ?_
    refine hc_seq ?_
    refine hc_region ?_
    refine hl_i rfl rfl rfl (e_call0 rfl F39 rfl (fun w hw => law08_alive_ct w (hkl.below (Mm.out hw).low)) rfl) ?_; intro _
    refine hl_y rfl rfl rfl (y_assign rfl rfl) ?_
    refine hl_nil ?_
    refine hq_then ?_
    refine hc_ret ?_
    exact hq_then_ret (hq_ret1 (()) rfl (rv_tmp rfl) rfl (fun _ h => Mm.pick h [] (by simp)))
  · skip
    rcases Decidable.em (300 < tl.length) with k1 | k1
    · skip
      refine hc_region ?_
      refine hl_y rfl rfl rfl (y_move rfl rfl) ?_
      refine hl_y rfl rfl rfl (y_lenE (kl.length) rfl rfl S22 rfl (rdF hk) (by first | rfl | (simp only [ls_len, ns_len, List.length_append, List.length_take, List.length_drop, List.length_replicate, List.length_cons, List.length_nil, putL_len, shaL_len, overL_len, macKey_len, hmacL_len]; done) | (simp only [ls_len, ns_len, List.length_append, List.length_take, List.length_drop, List.length_replicate, List.length_cons, List.length_nil, putL_len, shaL_len, overL_len, macKey_len, hmacL_len]; omega))) ?_
      refine hl_y rfl rfl rfl (y_as (y_gtrn (q := 300) rfl rfl rfl ) (congrArg Value.bool (decide_eq_false (by omega)))) ?_
      refine hl_y rfl rfl rfl (y_move rfl rfl) ?_
      refine hl_yg 3 11 false rfl rfl rfl rfl rfl (y_move rfl rfl) ?_
      refine hl_yg 3 11 false rfl rfl rfl rfl rfl (y_lenE (tl.length) rfl rfl S22 rfl (rdF ht) (by first | rfl | (simp only [ls_len, ns_len, List.length_append, List.length_take, List.length_drop, List.length_replicate, List.length_cons, List.length_nil, putL_len, shaL_len, overL_len, macKey_len, hmacL_len]; done) | (simp only [ls_len, ns_len, List.length_append, List.length_take, List.length_drop, List.length_replicate, List.length_cons, List.length_nil, putL_len, shaL_len, overL_len, macKey_len, hmacL_len]; omega))) ?_
      refine hl_yg 3 11 false rfl rfl rfl rfl rfl (y_as (y_gtrn (q := 300) rfl rfl rfl ) (congrArg Value.bool (decide_eq_true (by omega)))) ?_
      refine hl_y rfl rfl rfl (y_pick (b := false) rfl rfl rfl) ?_
      refine hl_nil ?_
      refine hq_then ?_
      refine hc_ifT rfl ?_
      refine hc_seq ?_
      refine hc_region ?_
      refine hl_i rfl rfl rfl (e_call0 rfl F39 rfl (fun w hw => law08_alive_ct w (hkl.below (Mm.out hw).low)) rfl) ?_; intro _
      refine hl_y rfl rfl rfl (y_assign rfl rfl) ?_
      refine hl_nil ?_
      refine hq_then ?_
      refine hc_ret ?_
      exact hq_then_ret (hq_ret1 (()) rfl (rv_tmp rfl) rfl (fun _ h => Mm.pick h [] (by simp)))
    · skip
      refine hc_region ?_
      refine hl_y rfl rfl rfl (y_move rfl rfl) ?_
      refine hl_y rfl rfl rfl (y_lenE (kl.length) rfl rfl S22 rfl (rdF hk) (by first | rfl | (simp only [ls_len, ns_len, List.length_append, List.length_take, List.length_drop, List.length_replicate, List.length_cons, List.length_nil, putL_len, shaL_len, overL_len, macKey_len, hmacL_len]; done) | (simp only [ls_len, ns_len, List.length_append, List.length_take, List.length_drop, List.length_replicate, List.length_cons, List.length_nil, putL_len, shaL_len, overL_len, macKey_len, hmacL_len]; omega))) ?_
      refine hl_y rfl rfl rfl (y_as (y_gtrn (q := 300) rfl rfl rfl ) (congrArg Value.bool (decide_eq_false (by omega)))) ?_
      refine hl_y rfl rfl rfl (y_move rfl rfl) ?_
      refine hl_yg 3 11 false rfl rfl rfl rfl rfl (y_move rfl rfl) ?_
      refine hl_yg 3 11 false rfl rfl rfl rfl rfl (y_lenE (tl.length) rfl rfl S22 rfl (rdF ht) (by first | rfl | (simp only [ls_len, ns_len, List.length_append, List.length_take, List.length_drop, List.length_replicate, List.length_cons, List.length_nil, putL_len, shaL_len, overL_len, macKey_len, hmacL_len]; done) | (simp only [ls_len, ns_len, List.length_append, List.length_take, List.length_drop, List.length_replicate, List.length_cons, List.length_nil, putL_len, shaL_len, overL_len, macKey_len, hmacL_len]; omega))) ?_
      refine hl_yg 3 11 false rfl rfl rfl rfl rfl (y_as (y_gtrn (q := 300) rfl rfl rfl ) (congrArg Value.bool (decide_eq_false (by omega)))) ?_
      refine hl_y rfl rfl rfl (y_pick (b := false) rfl rfl rfl) ?_
      refine hl_nil ?_
      refine hq_then ?_
      refine hc_ifF rfl ?_
      refine hc_skip ?_
      refine hq_then ?_
      refine hc_seq ?_
      refine hc_region ?_
      refine hl_y rfl rfl rfl (y_move rfl rfl) ?_
      refine hl_i rfl rfl rfl (e_call rfl F40 rfl (fun w hw => mac_Key_ct kl _ w ((rdF hk) w hw) (by first | omega | (simp only [List.length_append, List.length_take, List.length_drop, List.length_replicate, List.length_cons, List.length_nil, putL_len, shaL_len, overL_len, macKey_len, hmacL_len]; omega) | (simp only [List.length_append, List.length_take, List.length_drop, List.length_replicate, List.length_cons, List.length_nil, putL_len, shaL_len, overL_len, macKey_len, hmacL_len] at *; omega)) (hkl.below (Mm.out hw).low)) rfl) ?_; intro y18
      refine hl_y rfl rfl rfl (y_assign rfl rfl) ?_
      refine hl_nil ?_
      refine hq_then ?_
      refine hc_seq ?_
      refine hc_seq ?_
      refine hc_region ?_
      refine hl_y rfl rfl rfl (y_move rfl rfl) ?_
      refine hl_y rfl rfl rfl (y_lenE (64) rfl rfl S22 rfl (rdR 0 rfl) (by first | rfl | (simp only [ls_len, ns_len, List.length_append, List.length_take, List.length_drop, List.length_replicate, List.length_cons, List.length_nil, putL_len, shaL_len, overL_len, macKey_len, hmacL_len]; done) | (simp only [ls_len, ns_len, List.length_append, List.length_take, List.length_drop, List.length_replicate, List.length_cons, List.length_nil, putL_len, shaL_len, overL_len, macKey_len, hmacL_len]; omega))) ?_
      refine hl_y rfl rfl rfl (y_as (y_neqn (q := 64) rfl rfl rfl ) (congrArg Value.bool (decide_eq_false (by omega)))) ?_
      refine hl_y rfl rfl rfl (y_move rfl rfl) ?_
      refine hl_yg 3 22 false rfl rfl rfl rfl rfl (y_move rfl rfl) ?_
      refine hl_yg 3 22 false rfl rfl rfl rfl rfl (y_move rfl rfl) ?_
      refine hl_ig 3 22 false rfl rfl rfl rfl rfl (e_call rfl F41 rfl (fun w hw => mac_Of_ct (macKey kl) _ tl _ w ((rdR 0 rfl) w hw) (by first | omega | (simp only [List.length_append, List.length_take, List.length_drop, List.length_replicate, List.length_cons, List.length_nil, putL_len, shaL_len, overL_len, macKey_len, hmacL_len]; omega) | (simp only [List.length_append, List.length_take, List.length_drop, List.length_replicate, List.length_cons, List.length_nil, putL_len, shaL_len, overL_len, macKey_len, hmacL_len] at *; omega)) ((rdF ht) w hw) (by first | omega | (simp only [List.length_append, List.length_take, List.length_drop, List.length_replicate, List.length_cons, List.length_nil, putL_len, shaL_len, overL_len, macKey_len, hmacL_len]; omega) | (simp only [List.length_append, List.length_take, List.length_drop, List.length_replicate, List.length_cons, List.length_nil, putL_len, shaL_len, overL_len, macKey_len, hmacL_len] at *; omega)) (hkl.below (Mm.out hw).low)) rfl) ?_; intro y25
      refine hl_yg 3 22 false rfl rfl rfl rfl rfl (y_move rfl rfl) ?_
      refine hl_yg 3 22 false rfl rfl rfl rfl rfl (y_move rfl rfl) ?_
      refine hl_ig 3 22 false rfl rfl rfl rfl rfl (e_call rfl F41 rfl (fun w hw => mac_Of_ct kl _ tl _ w ((rdF hk) w hw) (by first | omega | (simp only [List.length_append, List.length_take, List.length_drop, List.length_replicate, List.length_cons, List.length_nil, putL_len, shaL_len, overL_len, macKey_len, hmacL_len]; omega) | (simp only [List.length_append, List.length_take, List.length_drop, List.length_replicate, List.length_cons, List.length_nil, putL_len, shaL_len, overL_len, macKey_len, hmacL_len] at *; omega)) ((rdF ht) w hw) (by first | omega | (simp only [List.length_append, List.length_take, List.length_drop, List.length_replicate, List.length_cons, List.length_nil, putL_len, shaL_len, overL_len, macKey_len, hmacL_len]; omega) | (simp only [List.length_append, List.length_take, List.length_drop, List.length_replicate, List.length_cons, List.length_nil, putL_len, shaL_len, overL_len, macKey_len, hmacL_len] at *; omega)) (hkl.below (Mm.out hw).low)) rfl) ?_; intro y28
      refine hl_ig 3 22 false rfl rfl rfl rfl rfl (e_call0 rfl F19 rfl (fun w hw => r01_Same_t _ _ _ _ w ((rdR 1 rfl) w hw) ((rdR 0 rfl) w hw) (by first | omega | (simp only [List.length_append, List.length_take, List.length_drop, List.length_replicate, List.length_cons, List.length_nil, putL_len, shaL_len, overL_len, macKey_len, hmacL_len]; omega) | (simp only [List.length_append, List.length_take, List.length_drop, List.length_replicate, List.length_cons, List.length_nil, putL_len, shaL_len, overL_len, macKey_len, hmacL_len] at *; omega)) (hmac_key kl tl)) rfl) ?_; intro _
      refine hl_yg 3 22 false rfl rfl rfl rfl rfl (y_not rfl rfl) ?_
      refine hl_y rfl rfl rfl (y_pick (b := false) rfl rfl rfl) ?_
      refine hl_nil ?_
      refine hq_then ?_
      refine hc_ifF rfl ?_
      refine hc_skip ?_
      refine hq_then ?_
      refine hc_seq ?_
      refine hc_seq ?_
      rcases Decidable.em (kl.length < 64) with k2 | k2
      · skip
        refine hc_region ?_
        refine hl_y rfl rfl rfl (y_move rfl rfl) ?_
        refine hl_y rfl rfl rfl (y_lenE (kl.length) rfl rfl S22 rfl (rdF hk) (by first | rfl | (simp only [ls_len, ns_len, List.length_append, List.length_take, List.length_drop, List.length_replicate, List.length_cons, List.length_nil, putL_len, shaL_len, overL_len, macKey_len, hmacL_len]; done) | (simp only [ls_len, ns_len, List.length_append, List.length_take, List.length_drop, List.length_replicate, List.length_cons, List.length_nil, putL_len, shaL_len, overL_len, macKey_len, hmacL_len]; omega))) ?_
        refine hl_y rfl rfl rfl (y_as (y_lssn (q := 64) rfl rfl rfl ) (congrArg Value.bool (decide_eq_true (by omega)))) ?_
        refine hl_y rfl rfl rfl (y_move rfl rfl) ?_
        refine hl_yg 3 35 true rfl rfl rfl rfl rfl (y_move rfl rfl) ?_
        refine hl_yg 3 35 true rfl rfl rfl rfl rfl (y_as (y_geqi (q := 0) rfl rfl rfl ) (congrArg Value.bool (decide_eq_false (by omega)))) ?_
        refine hl_y rfl rfl rfl (y_pick (b := true) rfl rfl rfl) ?_
        refine hl_y rfl rfl rfl (y_move rfl rfl) ?_
        refine hl_no 7 39 true false rfl rfl rfl rfl rfl rfl ?_
        refine hl_no 7 39 true false rfl rfl rfl rfl rfl rfl ?_
        refine hl_no 7 39 true false rfl rfl rfl rfl rfl rfl ?_
        refine hl_no 7 39 true false rfl rfl rfl rfl rfl rfl ?_
        refine hl_no 7 39 true false rfl rfl rfl rfl rfl rfl ?_
        refine hl_y rfl rfl rfl (y_pick (b := false) rfl rfl rfl) ?_
        refine hl_nil ?_
        refine hq_then ?_
        refine hc_ifF rfl ?_
        refine hc_skip ?_
        refine hq_then ?_
        refine hc_seq ?_
        refine hc_region ?_
        refine hl_i rfl rfl rfl (e_call0 rfl F39 rfl (fun w hw => law08_alive_ct w (hkl.below (Mm.out hw).low)) rfl) ?_; intro _
        refine hl_y rfl rfl rfl (y_assign rfl rfl) ?_
        refine hl_nil ?_
        refine hq_then ?_
        refine hc_ret ?_
        exact hq_ret1 (()) rfl (rv_tmp rfl) rfl (fun _ h => Mm.pick h [] (by simp))
      · skip
        refine hc_region ?_
        refine hl_y rfl rfl rfl (y_move rfl rfl) ?_
        refine hl_y rfl rfl rfl (y_lenE (kl.length) rfl rfl S22 rfl (rdF hk) (by first | rfl | (simp only [ls_len, ns_len, List.length_append, List.length_take, List.length_drop, List.length_replicate, List.length_cons, List.length_nil, putL_len, shaL_len, overL_len, macKey_len, hmacL_len]; done) | (simp only [ls_len, ns_len, List.length_append, List.length_take, List.length_drop, List.length_replicate, List.length_cons, List.length_nil, putL_len, shaL_len, overL_len, macKey_len, hmacL_len]; omega))) ?_
        refine hl_y rfl rfl rfl (y_as (y_lssn (q := 64) rfl rfl rfl ) (congrArg Value.bool (decide_eq_false (by omega)))) ?_
        refine hl_y rfl rfl rfl (y_move rfl rfl) ?_
        refine hl_no 3 35 true false rfl rfl rfl rfl rfl rfl ?_
        refine hl_no 3 35 true false rfl rfl rfl rfl rfl rfl ?_
        refine hl_y rfl rfl rfl (y_pick (b := false) rfl rfl rfl) ?_
        refine hl_y rfl rfl rfl (y_move rfl rfl) ?_
        refine hl_no 7 39 true false rfl rfl rfl rfl rfl rfl ?_
        refine hl_no 7 39 true false rfl rfl rfl rfl rfl rfl ?_
        refine hl_no 7 39 true false rfl rfl rfl rfl rfl rfl ?_
        refine hl_no 7 39 true false rfl rfl rfl rfl rfl rfl ?_
        refine hl_no 7 39 true false rfl rfl rfl rfl rfl rfl ?_
        refine hl_y rfl rfl rfl (y_pick (b := false) rfl rfl rfl) ?_
        refine hl_nil ?_
        refine hq_then ?_
        refine hc_ifF rfl ?_
        refine hc_skip ?_
        refine hq_then ?_
        refine hc_seq ?_
        refine hc_region ?_
        refine hl_i rfl rfl rfl (e_call0 rfl F39 rfl (fun w hw => law08_alive_ct w (hkl.below (Mm.out hw).low)) rfl) ?_; intro _
        refine hl_y rfl rfl rfl (y_assign rfl rfl) ?_
        refine hl_nil ?_
        refine hq_then ?_
        refine hc_ret ?_
        exact hq_ret1 (()) rfl (rv_tmp rfl) rfl (fun _ h => Mm.pick h [] (by simp))

set_option maxHeartbeats 1000000 in
theorem macParts_ct (kl : List UInt8) (kv : Value) (la lb : List UInt8) (av bv : Value)  (w : World) (hk : Rd w kv (ls vb kl)) (mk : kl.length ≤ 9223372036854775807) (ha : Rd w av (ls vb la)) (ma : la.length ≤ 9223372036854775807) (hb : Rd w bv (ls vb lb)) (mb : lb.length ≤ 9223372036854775807) (hkl : KL w) : Ct0 Tryd.prog 11 #[kv, av, bv] w (.bool true) := by
  refine ct0_of Tryd.func11 rfl Tryd.ntmps11 rfl ?_
  refine hc_seq ?_
  refine hc_region ?_
  refine hl_y rfl rfl rfl (y_assign rfl rfl) ?_
  refine hl_nil ?_
  refine hq_then ?_
  refine hc_seq ?_
  refine hc_seq ?_
  rcases Decidable.em (300 < kl.length) with k0 | k0
  · skip
    refine hc_region ?_
    refine hl_y rfl rfl rfl (y_move rfl rfl) ?_
    refine hl_y rfl rfl rfl (y_lenE (kl.length) rfl rfl S22 rfl (rdF hk) (by first | rfl | (simp only [ls_len, ns_len, List.length_append, List.length_take, List.length_drop, List.length_replicate, List.length_cons, List.length_nil, putL_len, shaL_len, overL_len, macKey_len, hmacL_len]; done) | (simp only [ls_len, ns_len, List.length_append, List.length_take, List.length_drop, List.length_replicate, List.length_cons, List.length_nil, putL_len, shaL_len, overL_len, macKey_len, hmacL_len]; omega))) ?_
    refine hl_y rfl rfl rfl (y_as (y_gtrn (q := 300) rfl rfl rfl ) (congrArg Value.bool (decide_eq_true (by omega)))) ?_
    refine hl_y rfl rfl rfl (y_move rfl rfl) ?_
    refine hl_no 3 12 false true rfl rfl rfl rfl rfl rfl ?_
    refine hl_no 3 12 false true rfl rfl rfl rfl rfl rfl ?_
    refine hl_no 3 12 false true rfl rfl rfl rfl rfl rfl ?_
    refine hl_y rfl rfl rfl (y_pick (b := true) rfl rfl rfl) ?_
    refine hl_y rfl rfl rfl (y_move rfl rfl) ?_
    refine hl_no 8 17 false true rfl rfl rfl rfl rfl rfl ?_
    refine hl_no 8 17 false true rfl rfl rfl rfl rfl rfl ?_
    refine hl_no 8 17 false true rfl rfl rfl rfl rfl rfl ?_
    refine hl_y rfl rfl rfl (y_pick (b := true) rfl rfl rfl) ?_
    refine hl_nil ?_
    refine hq_then ?_
    refine hc_ifT rfl ?_
    refine hc_seq ?_
    refine hc_region ?_
    refine hl_i rfl rfl rfl (e_call0 rfl F39 rfl (fun w hw => law08_alive_ct w (hkl.below (Mm.out hw).low)) rfl) ?_; intro _
    refine hl_y rfl rfl rfl (y_assign rfl rfl) ?_
    refine hl_nil ?_
    refine hq_then ?_
    refine hc_ret ?_
    exact hq_then_ret (hq_ret1 (()) rfl (rv_tmp rfl) rfl (fun _ h => Mm.pick h [] (by simp)))
  · skip
    rcases Decidable.em (200 < la.length) with k1 | k1
    · skip
      refine hc_region ?_
      refine hl_y rfl rfl rfl (y_move rfl rfl) ?_
      refine hl_y rfl rfl rfl (y_lenE (kl.length) rfl rfl S22 rfl (rdF hk) (by first | rfl | (simp only [ls_len, ns_len, List.length_append, List.length_take, List.length_drop, List.length_replicate, List.length_cons, List.length_nil, putL_len, shaL_len, overL_len, macKey_len, hmacL_len]; done) | (simp only [ls_len, ns_len, List.length_append, List.length_take, List.length_drop, List.length_replicate, List.length_cons, List.length_nil, putL_len, shaL_len, overL_len, macKey_len, hmacL_len]; omega))) ?_
      refine hl_y rfl rfl rfl (y_as (y_gtrn (q := 300) rfl rfl rfl ) (congrArg Value.bool (decide_eq_false (by omega)))) ?_
      refine hl_y rfl rfl rfl (y_move rfl rfl) ?_
      refine hl_yg 3 12 false rfl rfl rfl rfl rfl (y_move rfl rfl) ?_
      refine hl_yg 3 12 false rfl rfl rfl rfl rfl (y_lenE (la.length) rfl rfl S22 rfl (rdF ha) (by first | rfl | (simp only [ls_len, ns_len, List.length_append, List.length_take, List.length_drop, List.length_replicate, List.length_cons, List.length_nil, putL_len, shaL_len, overL_len, macKey_len, hmacL_len]; done) | (simp only [ls_len, ns_len, List.length_append, List.length_take, List.length_drop, List.length_replicate, List.length_cons, List.length_nil, putL_len, shaL_len, overL_len, macKey_len, hmacL_len]; omega))) ?_
      refine hl_yg 3 12 false rfl rfl rfl rfl rfl (y_as (y_gtrn (q := 200) rfl rfl rfl ) (congrArg Value.bool (decide_eq_true (by omega)))) ?_
      refine hl_y rfl rfl rfl (y_pick (b := false) rfl rfl rfl) ?_
      refine hl_y rfl rfl rfl (y_move rfl rfl) ?_
      refine hl_no 8 17 false true rfl rfl rfl rfl rfl rfl ?_
      refine hl_no 8 17 false true rfl rfl rfl rfl rfl rfl ?_
      refine hl_no 8 17 false true rfl rfl rfl rfl rfl rfl ?_
      refine hl_y rfl rfl rfl (y_pick (b := true) rfl rfl rfl) ?_
      refine hl_nil ?_
      refine hq_then ?_
      refine hc_ifT rfl ?_
      refine hc_seq ?_
      refine hc_region ?_
      refine hl_i rfl rfl rfl (e_call0 rfl F39 rfl (fun w hw => law08_alive_ct w (hkl.below (Mm.out hw).low)) rfl) ?_; intro _
      refine hl_y rfl rfl rfl (y_assign rfl rfl) ?_
      refine hl_nil ?_
      refine hq_then ?_
      refine hc_ret ?_
      exact hq_then_ret (hq_ret1 (()) rfl (rv_tmp rfl) rfl (fun _ h => Mm.pick h [] (by simp)))
    · skip
      rcases Decidable.em (200 < lb.length) with k2 | k2
      · skip
        refine hc_region ?_
        refine hl_y rfl rfl rfl (y_move rfl rfl) ?_
        refine hl_y rfl rfl rfl (y_lenE (kl.length) rfl rfl S22 rfl (rdF hk) (by first | rfl | (simp only [ls_len, ns_len, List.length_append, List.length_take, List.length_drop, List.length_replicate, List.length_cons, List.length_nil, putL_len, shaL_len, overL_len, macKey_len, hmacL_len]; done) | (simp only [ls_len, ns_len, List.length_append, List.length_take, List.length_drop, List.length_replicate, List.length_cons, List.length_nil, putL_len, shaL_len, overL_len, macKey_len, hmacL_len]; omega))) ?_
        refine hl_y rfl rfl rfl (y_as (y_gtrn (q := 300) rfl rfl rfl ) (congrArg Value.bool (decide_eq_false (by omega)))) ?_
        refine hl_y rfl rfl rfl (y_move rfl rfl) ?_
        refine hl_yg 3 12 false rfl rfl rfl rfl rfl (y_move rfl rfl) ?_
        refine hl_yg 3 12 false rfl rfl rfl rfl rfl (y_lenE (la.length) rfl rfl S22 rfl (rdF ha) (by first | rfl | (simp only [ls_len, ns_len, List.length_append, List.length_take, List.length_drop, List.length_replicate, List.length_cons, List.length_nil, putL_len, shaL_len, overL_len, macKey_len, hmacL_len]; done) | (simp only [ls_len, ns_len, List.length_append, List.length_take, List.length_drop, List.length_replicate, List.length_cons, List.length_nil, putL_len, shaL_len, overL_len, macKey_len, hmacL_len]; omega))) ?_
        refine hl_yg 3 12 false rfl rfl rfl rfl rfl (y_as (y_gtrn (q := 200) rfl rfl rfl ) (congrArg Value.bool (decide_eq_false (by omega)))) ?_
        refine hl_y rfl rfl rfl (y_pick (b := false) rfl rfl rfl) ?_
        refine hl_y rfl rfl rfl (y_move rfl rfl) ?_
        refine hl_yg 8 17 false rfl rfl rfl rfl rfl (y_move rfl rfl) ?_
        refine hl_yg 8 17 false rfl rfl rfl rfl rfl (y_lenE (lb.length) rfl rfl S22 rfl (rdF hb) (by first | rfl | (simp only [ls_len, ns_len, List.length_append, List.length_take, List.length_drop, List.length_replicate, List.length_cons, List.length_nil, putL_len, shaL_len, overL_len, macKey_len, hmacL_len]; done) | (simp only [ls_len, ns_len, List.length_append, List.length_take, List.length_drop, List.length_replicate, List.length_cons, List.length_nil, putL_len, shaL_len, overL_len, macKey_len, hmacL_len]; omega))) ?_
        refine hl_yg 8 17 false rfl rfl rfl rfl rfl (y_as (y_gtrn (q := 200) rfl rfl rfl ) (congrArg Value.bool (decide_eq_true (by omega)))) ?_
        refine hl_y rfl rfl rfl (y_pick (b := false) rfl rfl rfl) ?_
        refine hl_nil ?_
        refine hq_then ?_
        refine hc_ifT rfl ?_
        refine hc_seq ?_
        refine hc_region ?_
        refine hl_i rfl rfl rfl (e_call0 rfl F39 rfl (fun w hw => law08_alive_ct w (hkl.below (Mm.out hw).low)) rfl) ?_; intro _
        refine hl_y rfl rfl rfl (y_assign rfl rfl) ?_
        refine hl_nil ?_
        refine hq_then ?_
        refine hc_ret ?_
        exact hq_then_ret (hq_ret1 (()) rfl (rv_tmp rfl) rfl (fun _ h => Mm.pick h [] (by simp)))
      · skip
        refine hc_region ?_
        refine hl_y rfl rfl rfl (y_move rfl rfl) ?_
        refine hl_y rfl rfl rfl (y_lenE (kl.length) rfl rfl S22 rfl (rdF hk) (by first | rfl | (simp only [ls_len, ns_len, List.length_append, List.length_take, List.length_drop, List.length_replicate, List.length_cons, List.length_nil, putL_len, shaL_len, overL_len, macKey_len, hmacL_len]; done) | (simp only [ls_len, ns_len, List.length_append, List.length_take, List.length_drop, List.length_replicate, List.length_cons, List.length_nil, putL_len, shaL_len, overL_len, macKey_len, hmacL_len]; omega))) ?_
        refine hl_y rfl rfl rfl (y_as (y_gtrn (q := 300) rfl rfl rfl ) (congrArg Value.bool (decide_eq_false (by omega)))) ?_
        refine hl_y rfl rfl rfl (y_move rfl rfl) ?_
        refine hl_yg 3 12 false rfl rfl rfl rfl rfl (y_move rfl rfl) ?_
        refine hl_yg 3 12 false rfl rfl rfl rfl rfl (y_lenE (la.length) rfl rfl S22 rfl (rdF ha) (by first | rfl | (simp only [ls_len, ns_len, List.length_append, List.length_take, List.length_drop, List.length_replicate, List.length_cons, List.length_nil, putL_len, shaL_len, overL_len, macKey_len, hmacL_len]; done) | (simp only [ls_len, ns_len, List.length_append, List.length_take, List.length_drop, List.length_replicate, List.length_cons, List.length_nil, putL_len, shaL_len, overL_len, macKey_len, hmacL_len]; omega))) ?_
        refine hl_yg 3 12 false rfl rfl rfl rfl rfl (y_as (y_gtrn (q := 200) rfl rfl rfl ) (congrArg Value.bool (decide_eq_false (by omega)))) ?_
        refine hl_y rfl rfl rfl (y_pick (b := false) rfl rfl rfl) ?_
        refine hl_y rfl rfl rfl (y_move rfl rfl) ?_
        refine hl_yg 8 17 false rfl rfl rfl rfl rfl (y_move rfl rfl) ?_
        refine hl_yg 8 17 false rfl rfl rfl rfl rfl (y_lenE (lb.length) rfl rfl S22 rfl (rdF hb) (by first | rfl | (simp only [ls_len, ns_len, List.length_append, List.length_take, List.length_drop, List.length_replicate, List.length_cons, List.length_nil, putL_len, shaL_len, overL_len, macKey_len, hmacL_len]; done) | (simp only [ls_len, ns_len, List.length_append, List.length_take, List.length_drop, List.length_replicate, List.length_cons, List.length_nil, putL_len, shaL_len, overL_len, macKey_len, hmacL_len]; omega))) ?_
        refine hl_yg 8 17 false rfl rfl rfl rfl rfl (y_as (y_gtrn (q := 200) rfl rfl rfl ) (congrArg Value.bool (decide_eq_false (by omega)))) ?_
        refine hl_y rfl rfl rfl (y_pick (b := false) rfl rfl rfl) ?_
        refine hl_nil ?_
        refine hq_then ?_
        refine hc_ifF rfl ?_
        refine hc_skip ?_
        refine hq_then ?_
        refine hc_seq ?_
        refine hc_region ?_
        refine hl_y rfl rfl rfl (y_move rfl rfl) ?_
        refine hl_y rfl rfl rfl (y_lenE (la.length) rfl rfl S22 rfl (rdF ha) (by first | rfl | (simp only [ls_len, ns_len, List.length_append, List.length_take, List.length_drop, List.length_replicate, List.length_cons, List.length_nil, putL_len, shaL_len, overL_len, macKey_len, hmacL_len]; done) | (simp only [ls_len, ns_len, List.length_append, List.length_take, List.length_drop, List.length_replicate, List.length_cons, List.length_nil, putL_len, shaL_len, overL_len, macKey_len, hmacL_len]; omega))) ?_
        refine hl_y rfl rfl rfl (y_conv rfl U3 U45 rfl (wrap_nq _)) ?_
        refine hl_i rfl rfl rfl (e_call rfl F34 rfl (fun w hw => r01_Put_ct _ 4 (by omega) (by omega) w) rfl) ?_; intro y26
        refine hl_y rfl rfl rfl (y_move rfl rfl) ?_
        refine hl_i rfl rfl rfl (e_call rfl F32 rfl (fun w hw => r01_Join_ct (putL (UInt64.ofNat la.length) 4) la _ _ w ((rdR 0 rfl) w hw) ((rdF ha) w hw) (by first | omega | (simp only [List.length_append, List.length_take, List.length_drop, List.length_replicate, List.length_cons, List.length_nil, putL_len, shaL_len, overL_len, macKey_len, hmacL_len]; omega) | (simp only [List.length_append, List.length_take, List.length_drop, List.length_replicate, List.length_cons, List.length_nil, putL_len, shaL_len, overL_len, macKey_len, hmacL_len] at *; omega))) rfl) ?_; intro y28
        refine hl_y rfl rfl rfl (y_move rfl rfl) ?_
        refine hl_i rfl rfl rfl (e_call rfl F32 rfl (fun w hw => r01_Join_ct ((putL (UInt64.ofNat la.length) 4) ++ la) lb _ _ w ((rdR 0 rfl) w hw) ((rdF hb) w hw) (by first | omega | (simp only [List.length_append, List.length_take, List.length_drop, List.length_replicate, List.length_cons, List.length_nil, putL_len, shaL_len, overL_len, macKey_len, hmacL_len]; omega) | (simp only [List.length_append, List.length_take, List.length_drop, List.length_replicate, List.length_cons, List.length_nil, putL_len, shaL_len, overL_len, macKey_len, hmacL_len] at *; omega))) rfl) ?_; intro y30
        refine hl_y rfl rfl rfl (y_assign rfl rfl) ?_
        refine hl_nil ?_
        refine hq_then ?_
        refine hc_seq ?_
        refine hc_region ?_
        refine hl_y rfl rfl rfl (y_move rfl rfl) ?_
        refine hl_y rfl rfl rfl (y_move rfl rfl) ?_
        refine hl_y rfl rfl rfl (y_move rfl rfl) ?_
        refine hl_i rfl rfl rfl (e_call rfl F44 rfl (fun w hw => mac_Two_ct kl _ la lb _ _ w ((rdF hk) w hw) (by omega) ((rdF ha) w hw) (by omega) ((rdF hb) w hw) (by omega) (hkl.below (Mm.out hw).low)) rfl) ?_; intro y34
        refine hl_y rfl rfl rfl (y_assign rfl rfl) ?_
        refine hl_nil ?_
        refine hq_then ?_
        refine hc_seq ?_
        refine hc_seq ?_
        refine hc_region ?_
        refine hl_y rfl rfl rfl (y_move rfl rfl) ?_
        refine hl_y rfl rfl rfl (y_lenE (32) rfl rfl S22 rfl (rdR 0 rfl) (by first | rfl | (simp only [ls_len, ns_len, List.length_append, List.length_take, List.length_drop, List.length_replicate, List.length_cons, List.length_nil, putL_len, shaL_len, overL_len, macKey_len, hmacL_len]; done) | (simp only [ls_len, ns_len, List.length_append, List.length_take, List.length_drop, List.length_replicate, List.length_cons, List.length_nil, putL_len, shaL_len, overL_len, macKey_len, hmacL_len]; omega))) ?_
        refine hl_y rfl rfl rfl (y_as (y_neqn (q := 32) rfl rfl rfl ) (congrArg Value.bool (decide_eq_false (by omega)))) ?_
        refine hl_nil ?_
        refine hq_then ?_
        refine hc_ifF rfl ?_
        refine hc_skip ?_
        refine hq_then ?_
        refine hc_seq ?_
        refine hc_region ?_
        refine hl_y rfl rfl rfl (y_move rfl rfl) ?_
        refine hl_y rfl rfl rfl (y_move rfl rfl) ?_
        refine hl_y rfl rfl rfl (y_move rfl rfl) ?_
        refine hl_i rfl rfl rfl (e_call rfl F41 rfl (fun w hw => mac_Of_ct kl _ (((putL (UInt64.ofNat la.length) 4) ++ la) ++ lb) _ w ((rdF hk) w hw) (by first | omega | (simp only [List.length_append, List.length_take, List.length_drop, List.length_replicate, List.length_cons, List.length_nil, putL_len, shaL_len, overL_len, macKey_len, hmacL_len]; omega) | (simp only [List.length_append, List.length_take, List.length_drop, List.length_replicate, List.length_cons, List.length_nil, putL_len, shaL_len, overL_len, macKey_len, hmacL_len] at *; omega)) ((rdR 1 rfl) w hw) (by first | omega | (simp only [List.length_append, List.length_take, List.length_drop, List.length_replicate, List.length_cons, List.length_nil, putL_len, shaL_len, overL_len, macKey_len, hmacL_len]; omega) | (simp only [List.length_append, List.length_take, List.length_drop, List.length_replicate, List.length_cons, List.length_nil, putL_len, shaL_len, overL_len, macKey_len, hmacL_len] at *; omega)) (hkl.below (Mm.out hw).low)) rfl) ?_; intro y41
        refine hl_i rfl rfl rfl (e_call0 rfl F19 rfl (fun w hw => r01_Same_t _ _ _ _ w ((rdR 1 rfl) w hw) ((rdR 0 rfl) w hw) (by first | omega | (simp only [List.length_append, List.length_take, List.length_drop, List.length_replicate, List.length_cons, List.length_nil, putL_len, shaL_len, overL_len, macKey_len, hmacL_len]; omega) | (simp only [List.length_append, List.length_take, List.length_drop, List.length_replicate, List.length_cons, List.length_nil, putL_len, shaL_len, overL_len, macKey_len, hmacL_len] at *; omega)) (rfl)) rfl) ?_; intro _
        refine hl_y rfl rfl rfl (y_move rfl rfl) ?_
        refine hl_yg 5 43 true rfl rfl rfl rfl rfl (y_move rfl rfl) ?_
        refine hl_yg 5 43 true rfl rfl rfl rfl rfl (y_move rfl rfl) ?_
        refine hl_yg 5 43 true rfl rfl rfl rfl rfl (y_move rfl rfl) ?_
        refine hl_ig 5 43 true rfl rfl rfl rfl rfl (e_call0 rfl F46 rfl (fun w hw => mac_Check_t kl _ (((putL (UInt64.ofNat la.length) 4) ++ la) ++ lb) _ (hmacL kl (putL (UInt64.ofNat la.length) 4 ++ la ++ lb)) _ w ((rdF hk) w hw) (by first | omega | (simp only [List.length_append, List.length_take, List.length_drop, List.length_replicate, List.length_cons, List.length_nil, putL_len, shaL_len, overL_len, macKey_len, hmacL_len]; omega) | (simp only [List.length_append, List.length_take, List.length_drop, List.length_replicate, List.length_cons, List.length_nil, putL_len, shaL_len, overL_len, macKey_len, hmacL_len] at *; omega)) ((rdR 2 rfl) w hw) (by first | omega | (simp only [List.length_append, List.length_take, List.length_drop, List.length_replicate, List.length_cons, List.length_nil, putL_len, shaL_len, overL_len, macKey_len, hmacL_len]; omega) | (simp only [List.length_append, List.length_take, List.length_drop, List.length_replicate, List.length_cons, List.length_nil, putL_len, shaL_len, overL_len, macKey_len, hmacL_len] at *; omega)) ((rdR 1 rfl) w hw) (hkl.below (Mm.out hw).low) (rfl)) rfl) ?_; intro _
        refine hl_y rfl rfl rfl (y_pick (b := true) rfl rfl rfl) ?_
        refine hl_y rfl rfl rfl (y_move rfl rfl) ?_
        refine hl_yg 11 49 true rfl rfl rfl rfl rfl (y_move rfl rfl) ?_
        refine hl_yg 11 49 true rfl rfl rfl rfl rfl (y_move rfl rfl) ?_
        refine hl_yg 11 49 true rfl rfl rfl rfl rfl (y_move rfl rfl) ?_
        refine hl_yg 11 49 true rfl rfl rfl rfl rfl (y_move rfl rfl) ?_
        refine hl_yg 11 49 true rfl rfl rfl rfl rfl (y_lenE (32) rfl rfl S22 rfl (rdR 1 rfl) (by first | rfl | (simp only [ls_len, ns_len, List.length_append, List.length_take, List.length_drop, List.length_replicate, List.length_cons, List.length_nil, putL_len, shaL_len, overL_len, macKey_len, hmacL_len]; done) | (simp only [ls_len, ns_len, List.length_append, List.length_take, List.length_drop, List.length_replicate, List.length_cons, List.length_nil, putL_len, shaL_len, overL_len, macKey_len, hmacL_len]; omega))) ?_
        refine hl_yg 11 49 true rfl rfl rfl rfl rfl (y_subn (q := 1) rfl rfl rfl (by first | omega | (simp only [ls_len, ns_len, List.length_append, List.length_take, List.length_drop, List.length_replicate, List.length_cons, List.length_nil, putL_len, shaL_len, overL_len, macKey_len, hmacL_len]; omega) | (simp only [ls_len, ns_len, List.length_append, List.length_take, List.length_drop, List.length_replicate, List.length_cons, List.length_nil, putL_len, shaL_len, overL_len, macKey_len, hmacL_len] at *; omega)) (by first | omega | (simp only [ls_len, ns_len, List.length_append, List.length_take, List.length_drop, List.length_replicate, List.length_cons, List.length_nil, putL_len, shaL_len, overL_len, macKey_len, hmacL_len]; omega) | (simp only [ls_len, ns_len, List.length_append, List.length_take, List.length_drop, List.length_replicate, List.length_cons, List.length_nil, putL_len, shaL_len, overL_len, macKey_len, hmacL_len] at *; omega))) ?_
        refine hl_yg 11 49 true rfl rfl rfl rfl rfl (y_slc0 rfl S22 rfl (rdR 1 rfl) rfl (by first | omega | (simp only [ls_len, ns_len, List.length_append, List.length_take, List.length_drop, List.length_replicate, List.length_cons, List.length_nil, putL_len, shaL_len, overL_len, macKey_len, hmacL_len]; omega) | (simp only [ls_len, ns_len, List.length_append, List.length_take, List.length_drop, List.length_replicate, List.length_cons, List.length_nil, putL_len, shaL_len, overL_len, macKey_len, hmacL_len] at *; omega))) ?_
        refine hl_ig 11 49 true rfl rfl rfl rfl rfl (e_call0 rfl F46 rfl (fun w hw => mac_Check_f kl _ (((putL (UInt64.ofNat la.length) 4) ++ la) ++ lb) _ ((hmacL kl (putL (UInt64.ofNat la.length) 4 ++ la ++ lb)).take (32 - 1)) _ w ((rdF hk) w hw) (by first | omega | (simp only [List.length_append, List.length_take, List.length_drop, List.length_replicate, List.length_cons, List.length_nil, putL_len, shaL_len, overL_len, macKey_len, hmacL_len]; omega) | (simp only [List.length_append, List.length_take, List.length_drop, List.length_replicate, List.length_cons, List.length_nil, putL_len, shaL_len, overL_len, macKey_len, hmacL_len] at *; omega)) ((rdR 2 rfl) w hw) (by first | omega | (simp only [List.length_append, List.length_take, List.length_drop, List.length_replicate, List.length_cons, List.length_nil, putL_len, shaL_len, overL_len, macKey_len, hmacL_len]; omega) | (simp only [List.length_append, List.length_take, List.length_drop, List.length_replicate, List.length_cons, List.length_nil, putL_len, shaL_len, overL_len, macKey_len, hmacL_len] at *; omega)) (((rdQ0 (rdR 1 rfl) (n := (32 - 1)) (by first | omega | (simp only [ls_len, ns_len, List.length_append, List.length_take, List.length_drop, List.length_replicate, List.length_cons, List.length_nil, putL_len, shaL_len, overL_len, macKey_len, hmacL_len]; omega) | (simp only [ls_len, ns_len, List.length_append, List.length_take, List.length_drop, List.length_replicate, List.length_cons, List.length_nil, putL_len, shaL_len, overL_len, macKey_len, hmacL_len] at *; omega)))) w hw) (hkl.below (Mm.out hw).low) (hmac_short _ _)) rfl) ?_; intro _
        refine hl_yg 11 49 true rfl rfl rfl rfl rfl (y_not rfl rfl) ?_
        refine hl_y rfl rfl rfl (y_pick (b := true) rfl rfl rfl) ?_
        refine hl_y rfl rfl rfl (y_move rfl rfl) ?_
        refine hl_ig 22 60 true rfl rfl rfl rfl rfl (e_call0 rfl F39 rfl (fun w hw => law08_alive_ct w (hkl.below (Mm.out hw).low)) rfl) ?_; intro _
        refine hl_y rfl rfl rfl (y_pick (b := true) rfl rfl rfl) ?_
        refine hl_y rfl rfl rfl (y_assign rfl rfl) ?_
        refine hl_nil ?_
        refine hq_then ?_
        refine hc_ret ?_
        exact hq_ret1 (()) rfl (rv_tmp rfl) rfl (fun _ h => Mm.pick h [] (by simp))

end Go.Proofs.YtcdidapkpfnphaaDoor
