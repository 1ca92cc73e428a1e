/- Boxes opened: what each call gives back. -/
import Derived.Test.YtcdidapkpfnphaaDoorBoxA
namespace Go.Proofs.YtcdidapkpfnphaaDoor
open Go.RowKit
set_option linter.unusedVariables false
set_option linter.unusedSimpArgs false
set_option maxRecDepth 100000
theorem r01_Same_f (la lb : List UInt8) (av bv : Value)  (w : World) (ha : Rd w av (ls vb la)) (hb : Rd w bv (ls vb lb)) (hm : la.length ≤ 9223372036854775807) (e : ¬ la = lb) : Ct0 Tryd.prog 19 #[av, bv] w (.bool false) := by
  have h := r01_Same_ct la lb av bv w ha hb hm
  rwa [decide_eq_false e] at h
theorem mac_Check_t (kl : List UInt8) (kv : Value) (tl : List UInt8) (tv : Value) (il : List UInt8) (iv : Value)  (w : World) (hk : Rd w kv (ls vb kl)) (hkm : kl.length ≤ 1000) (ht : Rd w tv (ls vb tl)) (htm : tl.length ≤ 90000) (hi : Rd w iv (ls vb il)) (hkl : KL w) (e : hmacL kl tl = il) : Ct0 Tryd.prog 46 #[kv, tv, iv] w (.bool true) := by
  have h := mac_Check_ct kl kv tl tv il iv w hk hkm ht htm hi hkl
  rwa [decide_eq_true e] at h
theorem mac_Check_f (kl : List UInt8) (kv : Value) (tl : List UInt8) (tv : Value) (il : List UInt8) (iv : Value)  (w : World) (hk : Rd w kv (ls vb kl)) (hkm : kl.length ≤ 1000) (ht : Rd w tv (ls vb tl)) (htm : tl.length ≤ 90000) (hi : Rd w iv (ls vb il)) (hkl : KL w) (e : ¬ hmacL kl tl = il) : Ct0 Tryd.prog 46 #[kv, tv, iv] w (.bool false) := by
  have h := mac_Check_ct kl kv tl tv il iv w hk hkm ht htm hi hkl
  rwa [decide_eq_false e] at h
theorem box_Open_ok (kl : List UInt8) (kv : Value) (bl : List UInt8) (bv : Value) (w : World) (hk : Rd w kv (ls vb kl)) (hb : Rd w bv (ls vb bl)) (h1 : kl.length = 32) (h2 : 48 ≤ bl.length) (h3 : bl.length ≤ 60048) (ho : Opens kl bl) (hkl : KL w) : Ct Tryd.prog 17 #[kv, bv] w (fun v : Value => .tuple #[v, vi 0]) (fun v => [.row 5 v (ls vb (openL kl bl))]) := by
  refine ct_of Tryd.func17 rfl Tryd.ntmps17 rfl ?_
  refine hc_seq ?_
  refine hc_region ?_
  refine hl_y rfl rfl rfl (y_assign rfl rfl) ?_
  refine hl_y rfl rfl rfl (y_assign (v := vi 0) rfl rfl) ?_
  refine hl_nil ?_
  refine hq_then ?_
  refine hc_seq ?_
  refine hc_seq ?_
  refine hc_region ?_
  refine hl_y rfl rfl rfl (y_move rfl rfl) ?_
  refine hl_y rfl rfl rfl (y_lenE (kl.length) rfl rfl S22 rfl (rdF hk) (by first | rfl | (simp only [ls_len, ns_len, List.length_append, List.length_take, List.length_drop, List.length_replicate, List.length_cons, List.length_nil, putL_len, shaL_len, overL_len, macKey_len, hmacL_len, tgL_len, outN_len, expN_len, infoL_len, derL_len]; done) | (simp only [ls_len, ns_len, List.length_append, List.length_take, List.length_drop, List.length_replicate, List.length_cons, List.length_nil, putL_len, shaL_len, overL_len, macKey_len, hmacL_len, tgL_len, outN_len, expN_len, infoL_len, derL_len]; omega))) ?_
  refine hl_y rfl rfl rfl (y_as (y_neqn (q := 32) rfl rfl rfl ) (congrArg Value.bool (decide_eq_false (by omega)))) ?_
  refine hl_y rfl rfl rfl (y_move rfl rfl) ?_
  refine hl_yg 3 14 false rfl rfl rfl rfl rfl (y_move rfl rfl) ?_
  refine hl_yg 3 14 false rfl rfl rfl rfl rfl (y_lenE (bl.length) rfl rfl S22 rfl (rdF hb) (by first | rfl | (simp only [ls_len, ns_len, List.length_append, List.length_take, List.length_drop, List.length_replicate, List.length_cons, List.length_nil, putL_len, shaL_len, overL_len, macKey_len, hmacL_len, tgL_len, outN_len, expN_len, infoL_len, derL_len]; done) | (simp only [ls_len, ns_len, List.length_append, List.length_take, List.length_drop, List.length_replicate, List.length_cons, List.length_nil, putL_len, shaL_len, overL_len, macKey_len, hmacL_len, tgL_len, outN_len, expN_len, infoL_len, derL_len]; omega))) ?_
  refine hl_ig 3 14 false rfl rfl rfl rfl rfl (e_call0 rfl F31 rfl (fun w hw => box_Size_ct 0 (by omega) w) rfl) ?_; intro _
  refine hl_yg 3 14 false rfl rfl rfl rfl rfl (y_as (y_lssn rfl rfl rfl ) (congrArg Value.bool (decide_eq_false (by omega)))) ?_
  refine hl_y rfl rfl rfl (y_pick (b := false) rfl rfl rfl) ?_
  refine hl_y rfl rfl rfl (y_move rfl rfl) ?_
  refine hl_yg 9 20 false rfl rfl rfl rfl rfl (y_move rfl rfl) ?_
  refine hl_yg 9 20 false rfl rfl rfl rfl rfl (y_lenE (bl.length) rfl rfl S22 rfl (rdF hb) (by first | rfl | (simp only [ls_len, ns_len, List.length_append, List.length_take, List.length_drop, List.length_replicate, List.length_cons, List.length_nil, putL_len, shaL_len, overL_len, macKey_len, hmacL_len, tgL_len, outN_len, expN_len, infoL_len, derL_len]; done) | (simp only [ls_len, ns_len, List.length_append, List.length_take, List.length_drop, List.length_replicate, List.length_cons, List.length_nil, putL_len, shaL_len, overL_len, macKey_len, hmacL_len, tgL_len, outN_len, expN_len, infoL_len, derL_len]; omega))) ?_
  refine hl_ig 9 20 false rfl rfl rfl rfl rfl (e_call0 rfl F31 rfl (fun w hw => box_Size_ct 60000 (by omega) w) rfl) ?_; intro _
  refine hl_yg 9 20 false rfl rfl rfl rfl rfl (y_as (y_gtrn rfl rfl rfl ) (congrArg Value.bool (decide_eq_false (by omega)))) ?_
  refine hl_y rfl rfl rfl (y_pick (b := false) rfl rfl rfl) ?_
  refine hl_nil ?_
  refine hq_then ?_
  refine hc_ifF rfl ?_
  refine hc_skip ?_
  refine hq_then ?_
  refine hc_seq ?_
  refine hc_region ?_
  refine hl_y rfl rfl rfl (y_move rfl rfl) ?_
  refine hl_y rfl rfl rfl (y_lenE (bl.length) rfl rfl S22 rfl (rdF hb) (by first | rfl | (simp only [ls_len, ns_len, List.length_append, List.length_take, List.length_drop, List.length_replicate, List.length_cons, List.length_nil, putL_len, shaL_len, overL_len, macKey_len, hmacL_len, tgL_len, outN_len, expN_len, infoL_len, derL_len]; done) | (simp only [ls_len, ns_len, List.length_append, List.length_take, List.length_drop, List.length_replicate, List.length_cons, List.length_nil, putL_len, shaL_len, overL_len, macKey_len, hmacL_len, tgL_len, outN_len, expN_len, infoL_len, derL_len]; omega))) ?_
  refine hl_y rfl rfl rfl (y_subn (q := 32) rfl rfl rfl (by first | omega | (simp only [ls_len, ns_len, List.length_append, List.length_take, List.length_drop, List.length_replicate, List.length_cons, List.length_nil, putL_len, shaL_len, overL_len, macKey_len, hmacL_len, tgL_len, outN_len, expN_len, infoL_len, derL_len]; omega) | (simp only [ls_len, ns_len, List.length_append, List.length_take, List.length_drop, List.length_replicate, List.length_cons, List.length_nil, putL_len, shaL_len, overL_len, macKey_len, hmacL_len, tgL_len, outN_len, expN_len, infoL_len, derL_len] at *; omega)) (by first | omega | (simp only [ls_len, ns_len, List.length_append, List.length_take, List.length_drop, List.length_replicate, List.length_cons, List.length_nil, putL_len, shaL_len, overL_len, macKey_len, hmacL_len, tgL_len, outN_len, expN_len, infoL_len, derL_len]; omega) | (simp only [ls_len, ns_len, List.length_append, List.length_take, List.length_drop, List.length_replicate, List.length_cons, List.length_nil, putL_len, shaL_len, overL_len, macKey_len, hmacL_len, tgL_len, outN_len, expN_len, infoL_len, derL_len] at *; omega))) ?_
  refine hl_y rfl rfl rfl (y_assign rfl rfl) ?_
  refine hl_nil ?_
  refine hq_then ?_
  refine hc_seq ?_
  refine hc_drawP [] follows_mixed ?_
  refine hh_y 0 rfl rfl rfl rfl (by kernel_rfl) (by kernel_rfl) (by kernel_rfl) (fun _ h => Mm.pick h [] (by decide)) (y_move rfl rfl) ?_
  refine hh_y 1 rfl rfl rfl rfl (by kernel_rfl) (by kernel_rfl) (by kernel_rfl) (fun _ h => Mm.pick h [] (by decide)) (y_move rfl rfl) ?_
  refine hh_y 2 rfl rfl rfl rfl (by kernel_rfl) (by kernel_rfl) (by kernel_rfl) (fun _ h => Mm.pick h [] (by decide)) (y_move rfl rfl) ?_
  refine hh_y 3 rfl rfl rfl rfl (by kernel_rfl) (by kernel_rfl) (by kernel_rfl) (fun _ h => Mm.pick h [] (by decide)) (y_slc3 rfl S22 rfl (rdF hb) rfl rfl (by first | omega | (simp only [ls_len, ns_len, List.length_append, List.length_take, List.length_drop, List.length_replicate, List.length_cons, List.length_nil, putL_len, shaL_len, overL_len, macKey_len, hmacL_len, tgL_len, outN_len, expN_len, infoL_len, derL_len]; omega) | (simp only [ls_len, ns_len, List.length_append, List.length_take, List.length_drop, List.length_replicate, List.length_cons, List.length_nil, putL_len, shaL_len, overL_len, macKey_len, hmacL_len, tgL_len, outN_len, expN_len, infoL_len, derL_len] at *; omega)) (by first | omega | (simp only [ls_len, ns_len, List.length_append, List.length_take, List.length_drop, List.length_replicate, List.length_cons, List.length_nil, putL_len, shaL_len, overL_len, macKey_len, hmacL_len, tgL_len, outN_len, expN_len, infoL_len, derL_len]; omega) | (simp only [ls_len, ns_len, List.length_append, List.length_take, List.length_drop, List.length_replicate, List.length_cons, List.length_nil, putL_len, shaL_len, overL_len, macKey_len, hmacL_len, tgL_len, outN_len, expN_len, infoL_len, derL_len] at *; omega))) ?_
  refine hh_y 4 rfl rfl rfl rfl (by kernel_rfl) (by kernel_rfl) (by kernel_rfl) (fun _ h => Mm.pick h [] (by decide)) (y_move rfl rfl) ?_
  refine hh_y 5 rfl rfl rfl rfl (by kernel_rfl) (by kernel_rfl) (by kernel_rfl) (fun _ h => Mm.pick h [] (by decide)) (y_move rfl rfl) ?_
  refine hh_y 6 rfl rfl rfl rfl (by kernel_rfl) (by kernel_rfl) (by kernel_rfl) (fun _ h => Mm.pick h [] (by decide)) (y_slc (hi := bl.length) rfl S22 rfl (rdF hb) rfl (by first | rfl | (simp only [ls_len, ns_len, List.length_append, List.length_take, List.length_drop, List.length_replicate, List.length_cons, List.length_nil, putL_len, shaL_len, overL_len, macKey_len, hmacL_len, tgL_len, outN_len, expN_len, infoL_len, derL_len]; done) | (simp only [ls_len, ns_len, List.length_append, List.length_take, List.length_drop, List.length_replicate, List.length_cons, List.length_nil, putL_len, shaL_len, overL_len, macKey_len, hmacL_len, tgL_len, outN_len, expN_len, infoL_len, derL_len]; omega)) (by first | omega | (simp only [ls_len, ns_len, List.length_append, List.length_take, List.length_drop, List.length_replicate, List.length_cons, List.length_nil, putL_len, shaL_len, overL_len, macKey_len, hmacL_len, tgL_len, outN_len, expN_len, infoL_len, derL_len]; omega) | (simp only [ls_len, ns_len, List.length_append, List.length_take, List.length_drop, List.length_replicate, List.length_cons, List.length_nil, putL_len, shaL_len, overL_len, macKey_len, hmacL_len, tgL_len, outN_len, expN_len, infoL_len, derL_len] at *; omega))) ?_
  refine hh_y 7 rfl rfl rfl rfl (by kernel_rfl) (by kernel_rfl) (by kernel_rfl) (fun _ h => Mm.pick h [] (by decide)) (y_assign rfl rfl) ?_
  refine hh_y 8 rfl rfl rfl rfl (by kernel_rfl) (by kernel_rfl) (by kernel_rfl) (fun _ h => Mm.pick h [] (by decide)) (y_assign rfl rfl) ?_
  refine hh_done (by kernel_rfl) ?_
  refine hq_then ?_
  refine hc_seq ?_
  refine hc_region ?_
  refine hl_y rfl rfl rfl (y_move rfl rfl) ?_
  refine hl_i rfl rfl rfl (e_call rfl F58 rfl (fun w hw => box_Keys_ct kl _ w ((rdF hk) w hw) (by first | omega | (simp only [List.length_append, List.length_take, List.length_drop, List.length_replicate, List.length_cons, List.length_nil, putL_len, shaL_len, overL_len, macKey_len, hmacL_len, tgL_len, outN_len, expN_len, infoL_len, derL_len]; omega) | (simp only [List.length_append, List.length_take, List.length_drop, List.length_replicate, List.length_cons, List.length_nil, putL_len, shaL_len, overL_len, macKey_len, hmacL_len, tgL_len, outN_len, expN_len, infoL_len, derL_len] at *; omega)) (hkl.below (Mm.out hw).low)) rfl) ?_; intro y38
  refine hl_y rfl rfl rfl (y_move rfl rfl) ?_
  refine hl_y rfl rfl rfl (y_extract rfl rfl rfl) ?_
  refine hl_y rfl rfl rfl (y_extract rfl rfl rfl) ?_
  refine hl_y rfl rfl rfl (y_assign rfl rfl) ?_
  refine hl_y rfl rfl rfl (y_assign rfl rfl) ?_
  refine hl_nil ?_
  refine hq_then ?_
  refine hc_seq ?_
  refine hc_seq ?_
  refine hc_region ?_
  refine hl_y rfl rfl rfl (y_move rfl rfl) ?_
  refine hl_y rfl rfl rfl (y_move rfl rfl) ?_
  refine hl_y rfl rfl rfl (y_move rfl rfl) ?_
  refine hl_i rfl rfl rfl (e_call0 rfl F46 rfl (fun w hw => mac_Check_t (derL kl [116, 97, 103]) _ (bl.take (bl.length - 32)) _ (bl.drop (bl.length - 32)) _ w (((rdW3 0 rfl (derL_len _ _))) w hw) (by first | omega | (simp only [List.length_append, List.length_take, List.length_drop, List.length_replicate, List.length_cons, List.length_nil, putL_len, shaL_len, overL_len, macKey_len, hmacL_len, tgL_len, outN_len, expN_len, infoL_len, derL_len]; omega)) (((rdQ3 (rdF hb) (n := (bl.length - 32)) (by first | omega | (simp only [ls_len, ns_len, List.length_append, List.length_take, List.length_drop, List.length_replicate, List.length_cons, List.length_nil, putL_len, shaL_len, overL_len, macKey_len, hmacL_len, tgL_len, outN_len, expN_len, infoL_len, derL_len]; omega) | (simp only [ls_len, ns_len, List.length_append, List.length_take, List.length_drop, List.length_replicate, List.length_cons, List.length_nil, putL_len, shaL_len, overL_len, macKey_len, hmacL_len, tgL_len, outN_len, expN_len, infoL_len, derL_len] at *; omega)))) w hw) (by first | omega | (simp only [List.length_append, List.length_take, List.length_drop, List.length_replicate, List.length_cons, List.length_nil, putL_len, shaL_len, overL_len, macKey_len, hmacL_len, tgL_len, outN_len, expN_len, infoL_len, derL_len]; omega)) (((rdQ1 (rdF hb) (lo := (bl.length - 32)) (hi := bl.length) (by first | omega | (simp only [ls_len, ns_len, List.length_append, List.length_take, List.length_drop, List.length_replicate, List.length_cons, List.length_nil, putL_len, shaL_len, overL_len, macKey_len, hmacL_len, tgL_len, outN_len, expN_len, infoL_len, derL_len]; omega) | (simp only [ls_len, ns_len, List.length_append, List.length_take, List.length_drop, List.length_replicate, List.length_cons, List.length_nil, putL_len, shaL_len, overL_len, macKey_len, hmacL_len, tgL_len, outN_len, expN_len, infoL_len, derL_len] at *; omega)) (by first | omega | (simp only [ls_len, ns_len, List.length_append, List.length_take, List.length_drop, List.length_replicate, List.length_cons, List.length_nil, putL_len, shaL_len, overL_len, macKey_len, hmacL_len, tgL_len, outN_len, expN_len, infoL_len, derL_len]; omega) | (simp only [ls_len, ns_len, List.length_append, List.length_take, List.length_drop, List.length_replicate, List.length_cons, List.length_nil, putL_len, shaL_len, overL_len, macKey_len, hmacL_len, tgL_len, outN_len, expN_len, infoL_len, derL_len] at *; omega)))) w hw) (hkl.below (Mm.out hw).low) ho) rfl) ?_; intro _
  refine hl_y rfl rfl rfl (y_not rfl rfl) ?_
  refine hl_nil ?_
  refine hq_then ?_
  refine hc_ifF rfl ?_
  refine hc_skip ?_
  refine hq_then ?_
  refine hc_seq ?_
  refine hc_drawP [0, 1] follows_mixed ?_
  refine hh_y 0 rfl rfl rfl rfl (by kernel_rfl) (by kernel_rfl) (by kernel_rfl) (fun _ h => Mm.pick h [0, 1] (by decide)) (y_move rfl rfl) ?_
  refine hh_y 1 rfl rfl rfl rfl (by kernel_rfl) (by kernel_rfl) (by kernel_rfl) (fun _ h => Mm.pick h [0, 1] (by decide)) (y_move rfl rfl) ?_
  refine hh_y 2 rfl rfl rfl rfl (by kernel_rfl) (by kernel_rfl) (by kernel_rfl) (fun _ h => Mm.pick h [0, 1] (by decide)) (y_slc0 (hi := 16) rfl S22 rfl ((rdQ3 (rdF hb) (n := (bl.length - 32)) (by first | omega | (simp only [ls_len, ns_len, List.length_append, List.length_take, List.length_drop, List.length_replicate, List.length_cons, List.length_nil, putL_len, shaL_len, overL_len, macKey_len, hmacL_len, tgL_len, outN_len, expN_len, infoL_len, derL_len]; omega) | (simp only [ls_len, ns_len, List.length_append, List.length_take, List.length_drop, List.length_replicate, List.length_cons, List.length_nil, putL_len, shaL_len, overL_len, macKey_len, hmacL_len, tgL_len, outN_len, expN_len, infoL_len, derL_len] at *; omega)))) rfl (by first | omega | (simp only [ls_len, ns_len, List.length_append, List.length_take, List.length_drop, List.length_replicate, List.length_cons, List.length_nil, putL_len, shaL_len, overL_len, macKey_len, hmacL_len, tgL_len, outN_len, expN_len, infoL_len, derL_len]; omega) | (simp only [ls_len, ns_len, List.length_append, List.length_take, List.length_drop, List.length_replicate, List.length_cons, List.length_nil, putL_len, shaL_len, overL_len, macKey_len, hmacL_len, tgL_len, outN_len, expN_len, infoL_len, derL_len] at *; omega))) ?_
  refine hh_y 3 rfl rfl rfl rfl (by kernel_rfl) (by kernel_rfl) (by kernel_rfl) (fun _ h => Mm.pick h [0, 1] (by decide)) (y_move rfl rfl) ?_
  refine hh_y 4 rfl rfl rfl rfl (by kernel_rfl) (by kernel_rfl) (by kernel_rfl) (fun _ h => Mm.pick h [0, 1] (by decide)) (y_slc (lo := 16) (hi := (bl.length - 32)) rfl S22 rfl ((rdQ3 (rdF hb) (n := (bl.length - 32)) (by first | omega | (simp only [ls_len, ns_len, List.length_append, List.length_take, List.length_drop, List.length_replicate, List.length_cons, List.length_nil, putL_len, shaL_len, overL_len, macKey_len, hmacL_len, tgL_len, outN_len, expN_len, infoL_len, derL_len]; omega) | (simp only [ls_len, ns_len, List.length_append, List.length_take, List.length_drop, List.length_replicate, List.length_cons, List.length_nil, putL_len, shaL_len, overL_len, macKey_len, hmacL_len, tgL_len, outN_len, expN_len, infoL_len, derL_len] at *; omega)))) rfl (by first | rfl | (simp only [ls_len, ns_len, List.length_append, List.length_take, List.length_drop, List.length_replicate, List.length_cons, List.length_nil, putL_len, shaL_len, overL_len, macKey_len, hmacL_len, tgL_len, outN_len, expN_len, infoL_len, derL_len]; done) | (simp only [ls_len, ns_len, List.length_append, List.length_take, List.length_drop, List.length_replicate, List.length_cons, List.length_nil, putL_len, shaL_len, overL_len, macKey_len, hmacL_len, tgL_len, outN_len, expN_len, infoL_len, derL_len]; omega)) (by first | omega | (simp only [ls_len, ns_len, List.length_append, List.length_take, List.length_drop, List.length_replicate, List.length_cons, List.length_nil, putL_len, shaL_len, overL_len, macKey_len, hmacL_len, tgL_len, outN_len, expN_len, infoL_len, derL_len]; omega) | (simp only [ls_len, ns_len, List.length_append, List.length_take, List.length_drop, List.length_replicate, List.length_cons, List.length_nil, putL_len, shaL_len, overL_len, macKey_len, hmacL_len, tgL_len, outN_len, expN_len, infoL_len, derL_len] at *; omega))) ?_
  refine hh_i 5 rfl rfl rfl rfl (by kernel_rfl) (e_call rfl F59 rfl (fun w hw => ctr_Over_ct (derL kl [115, 101, 97, 108]) ((bl.take (bl.length - 32)).take 16) _ _ ((bl.take (bl.length - 32)).drop 16) _ w (((rdW3 1 rfl (derL_len _ _))) w hw) (((rdQ0 ((rdQ3 (rdF hb) (n := (bl.length - 32)) (by first | omega | (simp only [ls_len, ns_len, List.length_append, List.length_take, List.length_drop, List.length_replicate, List.length_cons, List.length_nil, putL_len, shaL_len, overL_len, macKey_len, hmacL_len, tgL_len, outN_len, expN_len, infoL_len, derL_len]; omega) | (simp only [ls_len, ns_len, List.length_append, List.length_take, List.length_drop, List.length_replicate, List.length_cons, List.length_nil, putL_len, shaL_len, overL_len, macKey_len, hmacL_len, tgL_len, outN_len, expN_len, infoL_len, derL_len] at *; omega)))) (n := 16) (by first | omega | (simp only [ls_len, ns_len, List.length_append, List.length_take, List.length_drop, List.length_replicate, List.length_cons, List.length_nil, putL_len, shaL_len, overL_len, macKey_len, hmacL_len, tgL_len, outN_len, expN_len, infoL_len, derL_len]; omega) | (simp only [ls_len, ns_len, List.length_append, List.length_take, List.length_drop, List.length_replicate, List.length_cons, List.length_nil, putL_len, shaL_len, overL_len, macKey_len, hmacL_len, tgL_len, outN_len, expN_len, infoL_len, derL_len] at *; omega)))) w hw) (((rdQ1 ((rdQ3 (rdF hb) (n := (bl.length - 32)) (by first | omega | (simp only [ls_len, ns_len, List.length_append, List.length_take, List.length_drop, List.length_replicate, List.length_cons, List.length_nil, putL_len, shaL_len, overL_len, macKey_len, hmacL_len, tgL_len, outN_len, expN_len, infoL_len, derL_len]; omega) | (simp only [ls_len, ns_len, List.length_append, List.length_take, List.length_drop, List.length_replicate, List.length_cons, List.length_nil, putL_len, shaL_len, overL_len, macKey_len, hmacL_len, tgL_len, outN_len, expN_len, infoL_len, derL_len] at *; omega)))) (lo := 16) (hi := (bl.length - 32)) (by first | omega | (simp only [ls_len, ns_len, List.length_append, List.length_take, List.length_drop, List.length_replicate, List.length_cons, List.length_nil, putL_len, shaL_len, overL_len, macKey_len, hmacL_len, tgL_len, outN_len, expN_len, infoL_len, derL_len]; omega) | (simp only [ls_len, ns_len, List.length_append, List.length_take, List.length_drop, List.length_replicate, List.length_cons, List.length_nil, putL_len, shaL_len, overL_len, macKey_len, hmacL_len, tgL_len, outN_len, expN_len, infoL_len, derL_len] at *; omega)) (by first | omega | (simp only [ls_len, ns_len, List.length_append, List.length_take, List.length_drop, List.length_replicate, List.length_cons, List.length_nil, putL_len, shaL_len, overL_len, macKey_len, hmacL_len, tgL_len, outN_len, expN_len, infoL_len, derL_len]; omega) | (simp only [ls_len, ns_len, List.length_append, List.length_take, List.length_drop, List.length_replicate, List.length_cons, List.length_nil, putL_len, shaL_len, overL_len, macKey_len, hmacL_len, tgL_len, outN_len, expN_len, infoL_len, derL_len] at *; omega)))) w hw) (by first | omega | (simp only [List.length_append, List.length_take, List.length_drop, List.length_replicate, List.length_cons, List.length_nil, putL_len, shaL_len, overL_len, macKey_len, hmacL_len, tgL_len, outN_len, expN_len, infoL_len, derL_len]; omega))) rfl) (fun _ _ h => Mm.pick h [1, 2] (by decide)) ?_; intro y51
  refine hh_y 6 rfl rfl rfl rfl (by kernel_rfl) (by kernel_rfl) (by kernel_rfl) (fun _ h => Mm.pick h [1, 2] (by decide)) (y_extract rfl rfl rfl) ?_
  refine hh_y 7 rfl rfl rfl rfl (by kernel_rfl) (by kernel_rfl) (by kernel_rfl) (fun _ h => Mm.pick h [1, 2] (by decide)) (y_extract rfl rfl rfl) ?_
  refine hh_y 8 rfl rfl rfl rfl (by kernel_rfl) (by kernel_rfl) (by kernel_rfl) (fun _ h => Mm.pick h [1, 2] (by decide)) (y_assign rfl rfl) ?_
  refine hh_y 9 rfl rfl rfl rfl (by kernel_rfl) (by kernel_rfl) (by kernel_rfl) (fun _ h => Mm.pick h [1, 2] (by decide)) (y_assign rfl rfl) ?_
  refine hh_done (by kernel_rfl) ?_
  refine hq_then ?_
  refine hc_ret ?_
  exact hq_ret2 (y51) rfl (rv_tmp rfl) (rv_tmp rfl) (by rw [strF_ok (derL_len _ _) (by first | omega | (simp only [List.length_append, List.length_take, List.length_drop, List.length_replicate, List.length_cons, List.length_nil, putL_len, shaL_len, overL_len, macKey_len, hmacL_len, tgL_len, outN_len, expN_len, infoL_len, derL_len]; omega)) (by first | omega | (simp only [List.length_append, List.length_take, List.length_drop, List.length_replicate, List.length_cons, List.length_nil, putL_len, shaL_len, overL_len, macKey_len, hmacL_len, tgL_len, outN_len, expN_len, infoL_len, derL_len]; omega))]; rfl) (fun _ h => Mm.pick h [0] (by decide))

theorem box_Open_bad (kl : List UInt8) (kv : Value) (bl : List UInt8) (bv : Value) (w : World) (hk : Rd w kv (ls vb kl)) (hb : Rd w bv (ls vb bl)) (h1 : kl.length = 32) (h2 : 48 ≤ bl.length) (h3 : bl.length ≤ 60048) (ho : ¬ Opens kl bl) (hkl : KL w) : Ct0 Tryd.prog 17 #[kv, bv] w (.tuple #[.slice none 0 0, vi 11]) := by
  refine ct0_of Tryd.func17 rfl Tryd.ntmps17 rfl ?_
  refine hc_seq ?_
  refine hc_region ?_
  refine hl_y rfl rfl rfl (y_assign rfl rfl) ?_
  refine hl_y rfl rfl rfl (y_assign (v := vi 0) rfl rfl) ?_
  refine hl_nil ?_
  refine hq_then ?_
  refine hc_seq ?_
  refine hc_seq ?_
  refine hc_region ?_
  refine hl_y rfl rfl rfl (y_move rfl rfl) ?_
  refine hl_y rfl rfl rfl (y_lenE (kl.length) rfl rfl S22 rfl (rdF hk) (by first | rfl | (simp only [ls_len, ns_len, List.length_append, List.length_take, List.length_drop, List.length_replicate, List.length_cons, List.length_nil, putL_len, shaL_len, overL_len, macKey_len, hmacL_len, tgL_len, outN_len, expN_len, infoL_len, derL_len]; done) | (simp only [ls_len, ns_len, List.length_append, List.length_take, List.length_drop, List.length_replicate, List.length_cons, List.length_nil, putL_len, shaL_len, overL_len, macKey_len, hmacL_len, tgL_len, outN_len, expN_len, infoL_len, derL_len]; omega))) ?_
  refine hl_y rfl rfl rfl (y_as (y_neqn (q := 32) rfl rfl rfl ) (congrArg Value.bool (decide_eq_false (by omega)))) ?_
  refine hl_y rfl rfl rfl (y_move rfl rfl) ?_
  refine hl_yg 3 14 false rfl rfl rfl rfl rfl (y_move rfl rfl) ?_
  refine hl_yg 3 14 false rfl rfl rfl rfl rfl (y_lenE (bl.length) rfl rfl S22 rfl (rdF hb) (by first | rfl | (simp only [ls_len, ns_len, List.length_append, List.length_take, List.length_drop, List.length_replicate, List.length_cons, List.length_nil, putL_len, shaL_len, overL_len, macKey_len, hmacL_len, tgL_len, outN_len, expN_len, infoL_len, derL_len]; done) | (simp only [ls_len, ns_len, List.length_append, List.length_take, List.length_drop, List.length_replicate, List.length_cons, List.length_nil, putL_len, shaL_len, overL_len, macKey_len, hmacL_len, tgL_len, outN_len, expN_len, infoL_len, derL_len]; omega))) ?_
  refine hl_ig 3 14 false rfl rfl rfl rfl rfl (e_call0 rfl F31 rfl (fun w hw => box_Size_ct 0 (by omega) w) rfl) ?_; intro _
  refine hl_yg 3 14 false rfl rfl rfl rfl rfl (y_as (y_lssn rfl rfl rfl ) (congrArg Value.bool (decide_eq_false (by omega)))) ?_
  refine hl_y rfl rfl rfl (y_pick (b := false) rfl rfl rfl) ?_
  refine hl_y rfl rfl rfl (y_move rfl rfl) ?_
  refine hl_yg 9 20 false rfl rfl rfl rfl rfl (y_move rfl rfl) ?_
  refine hl_yg 9 20 false rfl rfl rfl rfl rfl (y_lenE (bl.length) rfl rfl S22 rfl (rdF hb) (by first | rfl | (simp only [ls_len, ns_len, List.length_append, List.length_take, List.length_drop, List.length_replicate, List.length_cons, List.length_nil, putL_len, shaL_len, overL_len, macKey_len, hmacL_len, tgL_len, outN_len, expN_len, infoL_len, derL_len]; done) | (simp only [ls_len, ns_len, List.length_append, List.length_take, List.length_drop, List.length_replicate, List.length_cons, List.length_nil, putL_len, shaL_len, overL_len, macKey_len, hmacL_len, tgL_len, outN_len, expN_len, infoL_len, derL_len]; omega))) ?_
  refine hl_ig 9 20 false rfl rfl rfl rfl rfl (e_call0 rfl F31 rfl (fun w hw => box_Size_ct 60000 (by omega) w) rfl) ?_; intro _
  refine hl_yg 9 20 false rfl rfl rfl rfl rfl (y_as (y_gtrn rfl rfl rfl ) (congrArg Value.bool (decide_eq_false (by omega)))) ?_
  refine hl_y rfl rfl rfl (y_pick (b := false) rfl rfl rfl) ?_
  refine hl_nil ?_
  refine hq_then ?_
  refine hc_ifF rfl ?_
  refine hc_skip ?_
  refine hq_then ?_
  refine hc_seq ?_
  refine hc_region ?_
  refine hl_y rfl rfl rfl (y_move rfl rfl) ?_
  refine hl_y rfl rfl rfl (y_lenE (bl.length) rfl rfl S22 rfl (rdF hb) (by first | rfl | (simp only [ls_len, ns_len, List.length_append, List.length_take, List.length_drop, List.length_replicate, List.length_cons, List.length_nil, putL_len, shaL_len, overL_len, macKey_len, hmacL_len, tgL_len, outN_len, expN_len, infoL_len, derL_len]; done) | (simp only [ls_len, ns_len, List.length_append, List.length_take, List.length_drop, List.length_replicate, List.length_cons, List.length_nil, putL_len, shaL_len, overL_len, macKey_len, hmacL_len, tgL_len, outN_len, expN_len, infoL_len, derL_len]; omega))) ?_
  refine hl_y rfl rfl rfl (y_subn (q := 32) rfl rfl rfl (by first | omega | (simp only [ls_len, ns_len, List.length_append, List.length_take, List.length_drop, List.length_replicate, List.length_cons, List.length_nil, putL_len, shaL_len, overL_len, macKey_len, hmacL_len, tgL_len, outN_len, expN_len, infoL_len, derL_len]; omega) | (simp only [ls_len, ns_len, List.length_append, List.length_take, List.length_drop, List.length_replicate, List.length_cons, List.length_nil, putL_len, shaL_len, overL_len, macKey_len, hmacL_len, tgL_len, outN_len, expN_len, infoL_len, derL_len] at *; omega)) (by first | omega | (simp only [ls_len, ns_len, List.length_append, List.length_take, List.length_drop, List.length_replicate, List.length_cons, List.length_nil, putL_len, shaL_len, overL_len, macKey_len, hmacL_len, tgL_len, outN_len, expN_len, infoL_len, derL_len]; omega) | (simp only [ls_len, ns_len, List.length_append, List.length_take, List.length_drop, List.length_replicate, List.length_cons, List.length_nil, putL_len, shaL_len, overL_len, macKey_len, hmacL_len, tgL_len, outN_len, expN_len, infoL_len, derL_len] at *; omega))) ?_
  refine hl_y rfl rfl rfl (y_assign rfl rfl) ?_
  refine hl_nil ?_
  refine hq_then ?_
  refine hc_seq ?_
  refine hc_drawP [] follows_mixed ?_
  refine hh_y 0 rfl rfl rfl rfl (by kernel_rfl) (by kernel_rfl) (by kernel_rfl) (fun _ h => Mm.pick h [] (by decide)) (y_move rfl rfl) ?_
  refine hh_y 1 rfl rfl rfl rfl (by kernel_rfl) (by kernel_rfl) (by kernel_rfl) (fun _ h => Mm.pick h [] (by decide)) (y_move rfl rfl) ?_
  refine hh_y 2 rfl rfl rfl rfl (by kernel_rfl) (by kernel_rfl) (by kernel_rfl) (fun _ h => Mm.pick h [] (by decide)) (y_move rfl rfl) ?_
  refine hh_y 3 rfl rfl rfl rfl (by kernel_rfl) (by kernel_rfl) (by kernel_rfl) (fun _ h => Mm.pick h [] (by decide)) (y_slc3 rfl S22 rfl (rdF hb) rfl rfl (by first | omega | (simp only [ls_len, ns_len, List.length_append, List.length_take, List.length_drop, List.length_replicate, List.length_cons, List.length_nil, putL_len, shaL_len, overL_len, macKey_len, hmacL_len, tgL_len, outN_len, expN_len, infoL_len, derL_len]; omega) | (simp only [ls_len, ns_len, List.length_append, List.length_take, List.length_drop, List.length_replicate, List.length_cons, List.length_nil, putL_len, shaL_len, overL_len, macKey_len, hmacL_len, tgL_len, outN_len, expN_len, infoL_len, derL_len] at *; omega)) (by first | omega | (simp only [ls_len, ns_len, List.length_append, List.length_take, List.length_drop, List.length_replicate, List.length_cons, List.length_nil, putL_len, shaL_len, overL_len, macKey_len, hmacL_len, tgL_len, outN_len, expN_len, infoL_len, derL_len]; omega) | (simp only [ls_len, ns_len, List.length_append, List.length_take, List.length_drop, List.length_replicate, List.length_cons, List.length_nil, putL_len, shaL_len, overL_len, macKey_len, hmacL_len, tgL_len, outN_len, expN_len, infoL_len, derL_len] at *; omega))) ?_
  refine hh_y 4 rfl rfl rfl rfl (by kernel_rfl) (by kernel_rfl) (by kernel_rfl) (fun _ h => Mm.pick h [] (by decide)) (y_move rfl rfl) ?_
  refine hh_y 5 rfl rfl rfl rfl (by kernel_rfl) (by kernel_rfl) (by kernel_rfl) (fun _ h => Mm.pick h [] (by decide)) (y_move rfl rfl) ?_
  refine hh_y 6 rfl rfl rfl rfl (by kernel_rfl) (by kernel_rfl) (by kernel_rfl) (fun _ h => Mm.pick h [] (by decide)) (y_slc (hi := bl.length) rfl S22 rfl (rdF hb) rfl (by first | rfl | (simp only [ls_len, ns_len, List.length_append, List.length_take, List.length_drop, List.length_replicate, List.length_cons, List.length_nil, putL_len, shaL_len, overL_len, macKey_len, hmacL_len, tgL_len, outN_len, expN_len, infoL_len, derL_len]; done) | (simp only [ls_len, ns_len, List.length_append, List.length_take, List.length_drop, List.length_replicate, List.length_cons, List.length_nil, putL_len, shaL_len, overL_len, macKey_len, hmacL_len, tgL_len, outN_len, expN_len, infoL_len, derL_len]; omega)) (by first | omega | (simp only [ls_len, ns_len, List.length_append, List.length_take, List.length_drop, List.length_replicate, List.length_cons, List.length_nil, putL_len, shaL_len, overL_len, macKey_len, hmacL_len, tgL_len, outN_len, expN_len, infoL_len, derL_len]; omega) | (simp only [ls_len, ns_len, List.length_append, List.length_take, List.length_drop, List.length_replicate, List.length_cons, List.length_nil, putL_len, shaL_len, overL_len, macKey_len, hmacL_len, tgL_len, outN_len, expN_len, infoL_len, derL_len] at *; omega))) ?_
  refine hh_y 7 rfl rfl rfl rfl (by kernel_rfl) (by kernel_rfl) (by kernel_rfl) (fun _ h => Mm.pick h [] (by decide)) (y_assign rfl rfl) ?_
  refine hh_y 8 rfl rfl rfl rfl (by kernel_rfl) (by kernel_rfl) (by kernel_rfl) (fun _ h => Mm.pick h [] (by decide)) (y_assign rfl rfl) ?_
  refine hh_done (by kernel_rfl) ?_
  refine hq_then ?_
  refine hc_seq ?_
  refine hc_region ?_
  refine hl_y rfl rfl rfl (y_move rfl rfl) ?_
  refine hl_i rfl rfl rfl (e_call rfl F58 rfl (fun w hw => box_Keys_ct kl _ w ((rdF hk) w hw) (by first | omega | (simp only [List.length_append, List.length_take, List.length_drop, List.length_replicate, List.length_cons, List.length_nil, putL_len, shaL_len, overL_len, macKey_len, hmacL_len, tgL_len, outN_len, expN_len, infoL_len, derL_len]; omega) | (simp only [List.length_append, List.length_take, List.length_drop, List.length_replicate, List.length_cons, List.length_nil, putL_len, shaL_len, overL_len, macKey_len, hmacL_len, tgL_len, outN_len, expN_len, infoL_len, derL_len] at *; omega)) (hkl.below (Mm.out hw).low)) rfl) ?_; intro y38
  refine hl_y rfl rfl rfl (y_move rfl rfl) ?_
  refine hl_y rfl rfl rfl (y_extract rfl rfl rfl) ?_
  refine hl_y rfl rfl rfl (y_extract rfl rfl rfl) ?_
  refine hl_y rfl rfl rfl (y_assign rfl rfl) ?_
  refine hl_y rfl rfl rfl (y_assign rfl rfl) ?_
  refine hl_nil ?_
  refine hq_then ?_
  refine hc_seq ?_
  refine hc_seq ?_
  refine hc_region ?_
  refine hl_y rfl rfl rfl (y_move rfl rfl) ?_
  refine hl_y rfl rfl rfl (y_move rfl rfl) ?_
  refine hl_y rfl rfl rfl (y_move rfl rfl) ?_
  refine hl_i rfl rfl rfl (e_call0 rfl F46 rfl (fun w hw => mac_Check_f (derL kl [116, 97, 103]) _ (bl.take (bl.length - 32)) _ (bl.drop (bl.length - 32)) _ w (((rdW3 0 rfl (derL_len _ _))) w hw) (by first | omega | (simp only [List.length_append, List.length_take, List.length_drop, List.length_replicate, List.length_cons, List.length_nil, putL_len, shaL_len, overL_len, macKey_len, hmacL_len, tgL_len, outN_len, expN_len, infoL_len, derL_len]; omega)) (((rdQ3 (rdF hb) (n := (bl.length - 32)) (by first | omega | (simp only [ls_len, ns_len, List.length_append, List.length_take, List.length_drop, List.length_replicate, List.length_cons, List.length_nil, putL_len, shaL_len, overL_len, macKey_len, hmacL_len, tgL_len, outN_len, expN_len, infoL_len, derL_len]; omega) | (simp only [ls_len, ns_len, List.length_append, List.length_take, List.length_drop, List.length_replicate, List.length_cons, List.length_nil, putL_len, shaL_len, overL_len, macKey_len, hmacL_len, tgL_len, outN_len, expN_len, infoL_len, derL_len] at *; omega)))) w hw) (by first | omega | (simp only [List.length_append, List.length_take, List.length_drop, List.length_replicate, List.length_cons, List.length_nil, putL_len, shaL_len, overL_len, macKey_len, hmacL_len, tgL_len, outN_len, expN_len, infoL_len, derL_len]; omega)) (((rdQ1 (rdF hb) (lo := (bl.length - 32)) (hi := bl.length) (by first | omega | (simp only [ls_len, ns_len, List.length_append, List.length_take, List.length_drop, List.length_replicate, List.length_cons, List.length_nil, putL_len, shaL_len, overL_len, macKey_len, hmacL_len, tgL_len, outN_len, expN_len, infoL_len, derL_len]; omega) | (simp only [ls_len, ns_len, List.length_append, List.length_take, List.length_drop, List.length_replicate, List.length_cons, List.length_nil, putL_len, shaL_len, overL_len, macKey_len, hmacL_len, tgL_len, outN_len, expN_len, infoL_len, derL_len] at *; omega)) (by first | omega | (simp only [ls_len, ns_len, List.length_append, List.length_take, List.length_drop, List.length_replicate, List.length_cons, List.length_nil, putL_len, shaL_len, overL_len, macKey_len, hmacL_len, tgL_len, outN_len, expN_len, infoL_len, derL_len]; omega) | (simp only [ls_len, ns_len, List.length_append, List.length_take, List.length_drop, List.length_replicate, List.length_cons, List.length_nil, putL_len, shaL_len, overL_len, macKey_len, hmacL_len, tgL_len, outN_len, expN_len, infoL_len, derL_len] at *; omega)))) w hw) (hkl.below (Mm.out hw).low) ho) rfl) ?_; intro _
  refine hl_y rfl rfl rfl (y_not rfl rfl) ?_
  refine hl_nil ?_
  refine hq_then ?_
  refine hc_ifT rfl ?_
  refine hc_seq ?_
  refine hc_region ?_
  refine hl_y rfl rfl rfl (y_assign rfl rfl) ?_
  refine hl_y rfl rfl rfl (y_assign (v := vi 11) rfl rfl) ?_
  refine hl_nil ?_
  refine hq_then ?_
  refine hc_ret ?_
  exact hq_then_ret (hq_ret2 (()) rfl (rv_tmp rfl) (rv_tmp rfl) rfl (fun _ h => Mm.pick h [] (by simp)))

theorem box_Open_no (kl : List UInt8) (kv : Value) (bl : List UInt8) (bv : Value) (w : World) (hk : Rd w kv (ls vb kl)) (hb : Rd w bv (ls vb bl)) (h : ¬ (kl.length = 32 ∧ 48 ≤ bl.length ∧ bl.length ≤ 60048)) (hm : bl.length ≤ 9223372036854775807) : Ct0 Tryd.prog 17 #[kv, bv] w (.tuple #[.slice none 0 0, vi 4]) := by
  refine ct0_of Tryd.func17 rfl Tryd.ntmps17 rfl ?_
  refine hc_seq ?_
  refine hc_region ?_
  refine hl_y rfl rfl rfl (y_assign rfl rfl) ?_
  refine hl_y rfl rfl rfl (y_assign (v := vi 0) rfl rfl) ?_
  refine hl_nil ?_
  refine hq_then ?_
  refine hc_seq ?_
  refine hc_seq ?_
  rcases Decidable.em (kl.length = 32) with c0 | c0
  · skip
    rcases Decidable.em (bl.length < 48) with c1 | c1
    · skip
      refine hc_region ?_
      refine hl_y rfl rfl rfl (y_move rfl rfl) ?_
      refine hl_y rfl rfl rfl (y_lenE (kl.length) rfl rfl S22 rfl (rdF hk) (by first | rfl | (simp only [ls_len, ns_len, List.length_append, List.length_take, List.length_drop, List.length_replicate, List.length_cons, List.length_nil, putL_len, shaL_len, overL_len, macKey_len, hmacL_len, tgL_len, outN_len, expN_len, infoL_len, derL_len]; done) | (simp only [ls_len, ns_len, List.length_append, List.length_take, List.length_drop, List.length_replicate, List.length_cons, List.length_nil, putL_len, shaL_len, overL_len, macKey_len, hmacL_len, tgL_len, outN_len, expN_len, infoL_len, derL_len]; omega))) ?_
      refine hl_y rfl rfl rfl (y_as (y_neqn (q := 32) rfl rfl rfl ) (congrArg Value.bool (decide_eq_false (by omega)))) ?_
      refine hl_y rfl rfl rfl (y_move rfl rfl) ?_
      refine hl_yg 3 14 false rfl rfl rfl rfl rfl (y_move rfl rfl) ?_
      refine hl_yg 3 14 false rfl rfl rfl rfl rfl (y_lenE (bl.length) rfl rfl S22 rfl (rdF hb) (by first | rfl | (simp only [ls_len, ns_len, List.length_append, List.length_take, List.length_drop, List.length_replicate, List.length_cons, List.length_nil, putL_len, shaL_len, overL_len, macKey_len, hmacL_len, tgL_len, outN_len, expN_len, infoL_len, derL_len]; done) | (simp only [ls_len, ns_len, List.length_append, List.length_take, List.length_drop, List.length_replicate, List.length_cons, List.length_nil, putL_len, shaL_len, overL_len, macKey_len, hmacL_len, tgL_len, outN_len, expN_len, infoL_len, derL_len]; omega))) ?_
      refine hl_ig 3 14 false rfl rfl rfl rfl rfl (e_call0 rfl F31 rfl (fun w hw => box_Size_ct 0 (by omega) w) rfl) ?_; intro _
      refine hl_yg 3 14 false rfl rfl rfl rfl rfl (y_as (y_lssn rfl rfl rfl ) (congrArg Value.bool (decide_eq_true (by omega)))) ?_
      refine hl_y rfl rfl rfl (y_pick (b := false) rfl rfl rfl) ?_
      refine hl_y rfl rfl rfl (y_move rfl rfl) ?_
      refine hl_no 9 20 false true rfl rfl rfl rfl rfl rfl ?_
      refine hl_no 9 20 false true rfl rfl rfl rfl rfl rfl ?_
      refine hl_no 9 20 false true rfl rfl rfl rfl rfl rfl ?_
      refine hl_no 9 20 false true rfl rfl rfl rfl rfl rfl ?_
      refine hl_y rfl rfl rfl (y_pick (b := true) rfl rfl rfl) ?_
      refine hl_nil ?_
      refine hq_then ?_
      refine hc_ifT rfl ?_
      refine hc_seq ?_
      refine hc_region ?_
      refine hl_y rfl rfl rfl (y_assign rfl rfl) ?_
      refine hl_y rfl rfl rfl (y_assign (v := vi 4) rfl rfl) ?_
      refine hl_nil ?_
      refine hq_then ?_
      refine hc_ret ?_
      exact hq_then_ret (hq_ret2 (()) rfl (rv_tmp rfl) (rv_tmp rfl) rfl (fun _ h => Mm.pick h [] (by simp)))
    · skip
      refine hc_region ?_
      refine hl_y rfl rfl rfl (y_move rfl rfl) ?_
      refine hl_y rfl rfl rfl (y_lenE (kl.length) rfl rfl S22 rfl (rdF hk) (by first | rfl | (simp only [ls_len, ns_len, List.length_append, List.length_take, List.length_drop, List.length_replicate, List.length_cons, List.length_nil, putL_len, shaL_len, overL_len, macKey_len, hmacL_len, tgL_len, outN_len, expN_len, infoL_len, derL_len]; done) | (simp only [ls_len, ns_len, List.length_append, List.length_take, List.length_drop, List.length_replicate, List.length_cons, List.length_nil, putL_len, shaL_len, overL_len, macKey_len, hmacL_len, tgL_len, outN_len, expN_len, infoL_len, derL_len]; omega))) ?_
      refine hl_y rfl rfl rfl (y_as (y_neqn (q := 32) rfl rfl rfl ) (congrArg Value.bool (decide_eq_false (by omega)))) ?_
      refine hl_y rfl rfl rfl (y_move rfl rfl) ?_
      refine hl_yg 3 14 false rfl rfl rfl rfl rfl (y_move rfl rfl) ?_
      refine hl_yg 3 14 false rfl rfl rfl rfl rfl (y_lenE (bl.length) rfl rfl S22 rfl (rdF hb) (by first | rfl | (simp only [ls_len, ns_len, List.length_append, List.length_take, List.length_drop, List.length_replicate, List.length_cons, List.length_nil, putL_len, shaL_len, overL_len, macKey_len, hmacL_len, tgL_len, outN_len, expN_len, infoL_len, derL_len]; done) | (simp only [ls_len, ns_len, List.length_append, List.length_take, List.length_drop, List.length_replicate, List.length_cons, List.length_nil, putL_len, shaL_len, overL_len, macKey_len, hmacL_len, tgL_len, outN_len, expN_len, infoL_len, derL_len]; omega))) ?_
      refine hl_ig 3 14 false rfl rfl rfl rfl rfl (e_call0 rfl F31 rfl (fun w hw => box_Size_ct 0 (by omega) w) rfl) ?_; intro _
      refine hl_yg 3 14 false rfl rfl rfl rfl rfl (y_as (y_lssn rfl rfl rfl ) (congrArg Value.bool (decide_eq_false (by omega)))) ?_
      refine hl_y rfl rfl rfl (y_pick (b := false) rfl rfl rfl) ?_
      refine hl_y rfl rfl rfl (y_move rfl rfl) ?_
      refine hl_yg 9 20 false rfl rfl rfl rfl rfl (y_move rfl rfl) ?_
      refine hl_yg 9 20 false rfl rfl rfl rfl rfl (y_lenE (bl.length) rfl rfl S22 rfl (rdF hb) (by first | rfl | (simp only [ls_len, ns_len, List.length_append, List.length_take, List.length_drop, List.length_replicate, List.length_cons, List.length_nil, putL_len, shaL_len, overL_len, macKey_len, hmacL_len, tgL_len, outN_len, expN_len, infoL_len, derL_len]; done) | (simp only [ls_len, ns_len, List.length_append, List.length_take, List.length_drop, List.length_replicate, List.length_cons, List.length_nil, putL_len, shaL_len, overL_len, macKey_len, hmacL_len, tgL_len, outN_len, expN_len, infoL_len, derL_len]; omega))) ?_
      refine hl_ig 9 20 false rfl rfl rfl rfl rfl (e_call0 rfl F31 rfl (fun w hw => box_Size_ct 60000 (by omega) w) rfl) ?_; intro _
      refine hl_yg 9 20 false rfl rfl rfl rfl rfl (y_as (y_gtrn rfl rfl rfl ) (congrArg Value.bool (decide_eq_true (by omega)))) ?_
      refine hl_y rfl rfl rfl (y_pick (b := false) rfl rfl rfl) ?_
      refine hl_nil ?_
      refine hq_then ?_
      refine hc_ifT rfl ?_
      refine hc_seq ?_
      refine hc_region ?_
      refine hl_y rfl rfl rfl (y_assign rfl rfl) ?_
      refine hl_y rfl rfl rfl (y_assign (v := vi 4) rfl rfl) ?_
      refine hl_nil ?_
      refine hq_then ?_
      refine hc_ret ?_
      exact hq_then_ret (hq_ret2 (()) rfl (rv_tmp rfl) (rv_tmp rfl) rfl (fun _ h => Mm.pick h [] (by simp)))
  · skip
    refine hc_region ?_
    refine hl_y rfl rfl rfl (y_move rfl rfl) ?_
    refine hl_y rfl rfl rfl (y_lenE (kl.length) rfl rfl S22 rfl (rdF hk) (by first | rfl | (simp only [ls_len, ns_len, List.length_append, List.length_take, List.length_drop, List.length_replicate, List.length_cons, List.length_nil, putL_len, shaL_len, overL_len, macKey_len, hmacL_len, tgL_len, outN_len, expN_len, infoL_len, derL_len]; done) | (simp only [ls_len, ns_len, List.length_append, List.length_take, List.length_drop, List.length_replicate, List.length_cons, List.length_nil, putL_len, shaL_len, overL_len, macKey_len, hmacL_len, tgL_len, outN_len, expN_len, infoL_len, derL_len]; omega))) ?_
    refine hl_y rfl rfl rfl (y_as (y_neqn (q := 32) rfl rfl rfl ) (congrArg Value.bool (decide_eq_true (by omega)))) ?_
    refine hl_y rfl rfl rfl (y_move rfl rfl) ?_
    refine hl_no 3 14 false true rfl rfl rfl rfl rfl rfl ?_
    refine hl_no 3 14 false true rfl rfl rfl rfl rfl rfl ?_
    refine hl_no 3 14 false true rfl rfl rfl rfl rfl rfl ?_
    refine hl_no 3 14 false true rfl rfl rfl rfl rfl rfl ?_
    refine hl_y rfl rfl rfl (y_pick (b := true) rfl rfl rfl) ?_
    refine hl_y rfl rfl rfl (y_move rfl rfl) ?_
    refine hl_no 9 20 false true rfl rfl rfl rfl rfl rfl ?_
    refine hl_no 9 20 false true rfl rfl rfl rfl rfl rfl ?_
    refine hl_no 9 20 false true rfl rfl rfl rfl rfl rfl ?_
    refine hl_no 9 20 false true rfl rfl rfl rfl rfl rfl ?_
    refine hl_y rfl rfl rfl (y_pick (b := true) rfl rfl rfl) ?_
    refine hl_nil ?_
    refine hq_then ?_
    refine hc_ifT rfl ?_
    refine hc_seq ?_
    refine hc_region ?_
    refine hl_y rfl rfl rfl (y_assign rfl rfl) ?_
    refine hl_y rfl rfl rfl (y_assign (v := vi 4) rfl rfl) ?_
    refine hl_nil ?_
    refine hq_then ?_
    refine hc_ret ?_
    exact hq_then_ret (hq_ret2 (()) rfl (rv_tmp rfl) (rv_tmp rfl) rfl (fun _ h => Mm.pick h [] (by simp)))

theorem r13_Open_ok (kl : List UInt8) (kv : Value) (bl : List UInt8) (bv : Value) (w : World) (hk : Rd w kv (ls vb kl)) (hb : Rd w bv (ls vb bl)) (h1 : kl.length = 32) (h2 : 48 ≤ bl.length) (h3 : bl.length ≤ 60048) (ho : Opens kl bl) : Ct Tryd.prog 18 #[kv, bv] w (fun v : Value => .tuple #[v, vi 0]) (fun v => [.row 5 v (ls vb (openL kl bl))]) := by
  refine ct_of Tryd.func18 rfl Tryd.ntmps18 rfl ?_
  refine hc_seq ?_
  refine hc_region ?_
  refine hl_y rfl rfl rfl (y_assign rfl rfl) ?_
  refine hl_y rfl rfl rfl (y_assign (v := vi 0) rfl rfl) ?_
  refine hl_nil ?_
  refine hq_then ?_
  refine hc_seq ?_
  refine hc_seq ?_
  refine hc_region ?_
  refine hl_y rfl rfl rfl (y_move rfl rfl) ?_
  refine hl_y rfl rfl rfl (y_lenE (kl.length) rfl rfl S22 rfl (rdF hk) (by first | rfl | (simp only [ls_len, ns_len, List.length_append, List.length_take, List.length_drop, List.length_replicate, List.length_cons, List.length_nil, putL_len, shaL_len, overL_len, macKey_len, hmacL_len, tgL_len, outN_len, expN_len, infoL_len, derL_len]; done) | (simp only [ls_len, ns_len, List.length_append, List.length_take, List.length_drop, List.length_replicate, List.length_cons, List.length_nil, putL_len, shaL_len, overL_len, macKey_len, hmacL_len, tgL_len, outN_len, expN_len, infoL_len, derL_len]; omega))) ?_
  refine hl_y rfl rfl rfl (y_as (y_neqn (q := 32) rfl rfl rfl ) (congrArg Value.bool (decide_eq_false (by omega)))) ?_
  refine hl_y rfl rfl rfl (y_move rfl rfl) ?_
  refine hl_yg 3 10 false rfl rfl rfl rfl rfl (y_move rfl rfl) ?_
  refine hl_yg 3 10 false rfl rfl rfl rfl rfl (y_lenE (bl.length) rfl rfl S22 rfl (rdF hb) (by first | rfl | (simp only [ls_len, ns_len, List.length_append, List.length_take, List.length_drop, List.length_replicate, List.length_cons, List.length_nil, putL_len, shaL_len, overL_len, macKey_len, hmacL_len, tgL_len, outN_len, expN_len, infoL_len, derL_len]; done) | (simp only [ls_len, ns_len, List.length_append, List.length_take, List.length_drop, List.length_replicate, List.length_cons, List.length_nil, putL_len, shaL_len, overL_len, macKey_len, hmacL_len, tgL_len, outN_len, expN_len, infoL_len, derL_len]; omega))) ?_
  refine hl_yg 3 10 false rfl rfl rfl rfl rfl (y_as (y_lssn (q := 48) rfl rfl rfl ) (congrArg Value.bool (decide_eq_false (by omega)))) ?_
  refine hl_y rfl rfl rfl (y_pick (b := false) rfl rfl rfl) ?_
  refine hl_y rfl rfl rfl (y_move rfl rfl) ?_
  refine hl_yg 8 15 false rfl rfl rfl rfl rfl (y_move rfl rfl) ?_
  refine hl_yg 8 15 false rfl rfl rfl rfl rfl (y_lenE (bl.length) rfl rfl S22 rfl (rdF hb) (by first | rfl | (simp only [ls_len, ns_len, List.length_append, List.length_take, List.length_drop, List.length_replicate, List.length_cons, List.length_nil, putL_len, shaL_len, overL_len, macKey_len, hmacL_len, tgL_len, outN_len, expN_len, infoL_len, derL_len]; done) | (simp only [ls_len, ns_len, List.length_append, List.length_take, List.length_drop, List.length_replicate, List.length_cons, List.length_nil, putL_len, shaL_len, overL_len, macKey_len, hmacL_len, tgL_len, outN_len, expN_len, infoL_len, derL_len]; omega))) ?_
  refine hl_yg 8 15 false rfl rfl rfl rfl rfl (y_as (y_gtrn (q := 60048) rfl rfl rfl ) (congrArg Value.bool (decide_eq_false (by omega)))) ?_
  refine hl_y rfl rfl rfl (y_pick (b := false) rfl rfl rfl) ?_
  refine hl_nil ?_
  refine hq_then ?_
  refine hc_ifF rfl ?_
  refine hc_skip ?_
  refine hq_then ?_
  refine hc_seq ?_
  refine hc_region ?_
  refine hl_y rfl rfl rfl (y_move rfl rfl) ?_
  refine hl_y rfl rfl rfl (y_lenE (bl.length) rfl rfl S22 rfl (rdF hb) (by first | rfl | (simp only [ls_len, ns_len, List.length_append, List.length_take, List.length_drop, List.length_replicate, List.length_cons, List.length_nil, putL_len, shaL_len, overL_len, macKey_len, hmacL_len, tgL_len, outN_len, expN_len, infoL_len, derL_len]; done) | (simp only [ls_len, ns_len, List.length_append, List.length_take, List.length_drop, List.length_replicate, List.length_cons, List.length_nil, putL_len, shaL_len, overL_len, macKey_len, hmacL_len, tgL_len, outN_len, expN_len, infoL_len, derL_len]; omega))) ?_
  refine hl_y rfl rfl rfl (y_subn (q := 32) rfl rfl rfl (by first | omega | (simp only [ls_len, ns_len, List.length_append, List.length_take, List.length_drop, List.length_replicate, List.length_cons, List.length_nil, putL_len, shaL_len, overL_len, macKey_len, hmacL_len, tgL_len, outN_len, expN_len, infoL_len, derL_len]; omega) | (simp only [ls_len, ns_len, List.length_append, List.length_take, List.length_drop, List.length_replicate, List.length_cons, List.length_nil, putL_len, shaL_len, overL_len, macKey_len, hmacL_len, tgL_len, outN_len, expN_len, infoL_len, derL_len] at *; omega)) (by first | omega | (simp only [ls_len, ns_len, List.length_append, List.length_take, List.length_drop, List.length_replicate, List.length_cons, List.length_nil, putL_len, shaL_len, overL_len, macKey_len, hmacL_len, tgL_len, outN_len, expN_len, infoL_len, derL_len]; omega) | (simp only [ls_len, ns_len, List.length_append, List.length_take, List.length_drop, List.length_replicate, List.length_cons, List.length_nil, putL_len, shaL_len, overL_len, macKey_len, hmacL_len, tgL_len, outN_len, expN_len, infoL_len, derL_len] at *; omega))) ?_
  refine hl_y rfl rfl rfl (y_assign rfl rfl) ?_
  refine hl_nil ?_
  refine hq_then ?_
  refine hc_seq ?_
  refine hc_seq ?_
  refine hc_drawP [] follows_mixed ?_
  refine hh_y 0 rfl rfl rfl rfl (by kernel_rfl) (by kernel_rfl) (by kernel_rfl) (fun _ h => Mm.pick h [] (by decide)) (y_move rfl rfl) ?_
  refine hh_y 2 rfl rfl rfl rfl (by kernel_rfl) (by kernel_rfl) (by kernel_rfl) (fun _ h => Mm.pick h [] (by decide)) (y_move rfl rfl) ?_
  refine hh_y 3 rfl rfl rfl rfl (by kernel_rfl) (by kernel_rfl) (by kernel_rfl) (fun _ h => Mm.pick h [] (by decide)) (y_move rfl rfl) ?_
  refine hh_y 4 rfl rfl rfl rfl (by kernel_rfl) (by kernel_rfl) (by kernel_rfl) (fun _ h => Mm.pick h [] (by decide)) (y_slc0 rfl S22 rfl (rdF hb) rfl (by first | omega | (simp only [ls_len, ns_len, List.length_append, List.length_take, List.length_drop, List.length_replicate, List.length_cons, List.length_nil, putL_len, shaL_len, overL_len, macKey_len, hmacL_len, tgL_len, outN_len, expN_len, infoL_len, derL_len]; omega) | (simp only [ls_len, ns_len, List.length_append, List.length_take, List.length_drop, List.length_replicate, List.length_cons, List.length_nil, putL_len, shaL_len, overL_len, macKey_len, hmacL_len, tgL_len, outN_len, expN_len, infoL_len, derL_len] at *; omega))) ?_
  refine hh_y 6 rfl rfl rfl rfl (by kernel_rfl) (by kernel_rfl) (by kernel_rfl) (fun _ h => Mm.pick h [] (by decide)) (y_move rfl rfl) ?_
  refine hh_y 7 rfl rfl rfl rfl (by kernel_rfl) (by kernel_rfl) (by kernel_rfl) (fun _ h => Mm.pick h [] (by decide)) (y_move rfl rfl) ?_
  refine hh_y 8 rfl rfl rfl rfl (by kernel_rfl) (by kernel_rfl) (by kernel_rfl) (fun _ h => Mm.pick h [] (by decide)) (y_slc (hi := bl.length) rfl S22 rfl (rdF hb) rfl (by first | rfl | (simp only [ls_len, ns_len, List.length_append, List.length_take, List.length_drop, List.length_replicate, List.length_cons, List.length_nil, putL_len, shaL_len, overL_len, macKey_len, hmacL_len, tgL_len, outN_len, expN_len, infoL_len, derL_len]; done) | (simp only [ls_len, ns_len, List.length_append, List.length_take, List.length_drop, List.length_replicate, List.length_cons, List.length_nil, putL_len, shaL_len, overL_len, macKey_len, hmacL_len, tgL_len, outN_len, expN_len, infoL_len, derL_len]; omega)) (by first | omega | (simp only [ls_len, ns_len, List.length_append, List.length_take, List.length_drop, List.length_replicate, List.length_cons, List.length_nil, putL_len, shaL_len, overL_len, macKey_len, hmacL_len, tgL_len, outN_len, expN_len, infoL_len, derL_len]; omega) | (simp only [ls_len, ns_len, List.length_append, List.length_take, List.length_drop, List.length_replicate, List.length_cons, List.length_nil, putL_len, shaL_len, overL_len, macKey_len, hmacL_len, tgL_len, outN_len, expN_len, infoL_len, derL_len] at *; omega))) ?_
  refine hh_i 1 rfl rfl rfl rfl (by kernel_rfl) (e_call rfl F53 rfl (fun w hw => r09_Derive_ct kl _ ([116, 97, 103]) w ((rdF hk) w hw) (by first | omega | (simp only [List.length_append, List.length_take, List.length_drop, List.length_replicate, List.length_cons, List.length_nil, putL_len, shaL_len, overL_len, macKey_len, hmacL_len, tgL_len, outN_len, expN_len, infoL_len, derL_len]; omega) | (simp only [List.length_append, List.length_take, List.length_drop, List.length_replicate, List.length_cons, List.length_nil, putL_len, shaL_len, overL_len, macKey_len, hmacL_len, tgL_len, outN_len, expN_len, infoL_len, derL_len] at *; omega)) (by first | omega | decide | (simp; omega))) rfl) (fun _ _ h => Mm.pick h [] (by decide)) ?_; intro y24
  refine hh_i 5 rfl rfl rfl rfl (by kernel_rfl) (e_call rfl F42 rfl (fun w hw => r08_Of_ct (derL kl ([116, 97, 103])) _ (bl.take (bl.length - 32)) _ w (((rdW2 0 rfl (derL_len _ _))) w hw) (by first | omega | (simp only [List.length_append, List.length_take, List.length_drop, List.length_replicate, List.length_cons, List.length_nil, putL_len, shaL_len, overL_len, macKey_len, hmacL_len, tgL_len, outN_len, expN_len, infoL_len, derL_len]; omega)) (((rdQ0 (rdF hb) (n := (bl.length - 32)) (by first | omega | (simp only [ls_len, ns_len, List.length_append, List.length_take, List.length_drop, List.length_replicate, List.length_cons, List.length_nil, putL_len, shaL_len, overL_len, macKey_len, hmacL_len, tgL_len, outN_len, expN_len, infoL_len, derL_len]; omega) | (simp only [ls_len, ns_len, List.length_append, List.length_take, List.length_drop, List.length_replicate, List.length_cons, List.length_nil, putL_len, shaL_len, overL_len, macKey_len, hmacL_len, tgL_len, outN_len, expN_len, infoL_len, derL_len] at *; omega)))) w hw) (by first | omega | (simp only [List.length_append, List.length_take, List.length_drop, List.length_replicate, List.length_cons, List.length_nil, putL_len, shaL_len, overL_len, macKey_len, hmacL_len, tgL_len, outN_len, expN_len, infoL_len, derL_len]; omega))) rfl) (fun _ _ h => Mm.pick h [] (by decide)) ?_; intro y28
  refine hh_i 9 rfl rfl rfl rfl (by kernel_rfl) (e_call0 rfl F19 rfl (fun w hw => r01_Same_t _ _ _ _ w ((rdR 0 rfl) w hw) (((rdQ1 (rdF hb) (lo := (bl.length - 32)) (hi := bl.length) (by first | omega | (simp only [ls_len, ns_len, List.length_append, List.length_take, List.length_drop, List.length_replicate, List.length_cons, List.length_nil, putL_len, shaL_len, overL_len, macKey_len, hmacL_len, tgL_len, outN_len, expN_len, infoL_len, derL_len]; omega) | (simp only [ls_len, ns_len, List.length_append, List.length_take, List.length_drop, List.length_replicate, List.length_cons, List.length_nil, putL_len, shaL_len, overL_len, macKey_len, hmacL_len, tgL_len, outN_len, expN_len, infoL_len, derL_len] at *; omega)) (by first | omega | (simp only [ls_len, ns_len, List.length_append, List.length_take, List.length_drop, List.length_replicate, List.length_cons, List.length_nil, putL_len, shaL_len, overL_len, macKey_len, hmacL_len, tgL_len, outN_len, expN_len, infoL_len, derL_len]; omega) | (simp only [ls_len, ns_len, List.length_append, List.length_take, List.length_drop, List.length_replicate, List.length_cons, List.length_nil, putL_len, shaL_len, overL_len, macKey_len, hmacL_len, tgL_len, outN_len, expN_len, infoL_len, derL_len] at *; omega)))) w hw) (by first | omega | (simp only [List.length_append, List.length_take, List.length_drop, List.length_replicate, List.length_cons, List.length_nil, putL_len, shaL_len, overL_len, macKey_len, hmacL_len, tgL_len, outN_len, expN_len, infoL_len, derL_len]; omega)) ho) rfl) (fun _ _ h => Mm.pick h [] (by decide)) ?_; intro _
  refine hh_y 10 rfl rfl rfl rfl (by kernel_rfl) (by kernel_rfl) (by kernel_rfl) (fun _ h => Mm.pick h [] (by decide)) (y_not rfl rfl) ?_
  refine hh_done (by kernel_rfl) ?_
  refine hq_then ?_
  refine hc_ifF rfl ?_
  refine hc_skip ?_
  refine hq_then ?_
  refine hc_seq ?_
  refine hc_drawP [0, 1] follows_mixed ?_
  refine hh_y 0 rfl rfl rfl rfl (by kernel_rfl) (by kernel_rfl) (by kernel_rfl) (fun _ h => Mm.pick h [0, 1] (by decide)) (y_move rfl rfl) ?_
  refine hh_y 2 rfl rfl rfl rfl (by kernel_rfl) (by kernel_rfl) (by kernel_rfl) (fun _ h => Mm.pick h [0, 1] (by decide)) (y_move rfl rfl) ?_
  refine hh_y 3 rfl rfl rfl rfl (by kernel_rfl) (by kernel_rfl) (by kernel_rfl) (fun _ h => Mm.pick h [0, 1] (by decide)) (y_slc0 (hi := 16) rfl S22 rfl (rdF hb) rfl (by first | omega | (simp only [ls_len, ns_len, List.length_append, List.length_take, List.length_drop, List.length_replicate, List.length_cons, List.length_nil, putL_len, shaL_len, overL_len, macKey_len, hmacL_len, tgL_len, outN_len, expN_len, infoL_len, derL_len]; omega) | (simp only [ls_len, ns_len, List.length_append, List.length_take, List.length_drop, List.length_replicate, List.length_cons, List.length_nil, putL_len, shaL_len, overL_len, macKey_len, hmacL_len, tgL_len, outN_len, expN_len, infoL_len, derL_len] at *; omega))) ?_
  refine hh_y 4 rfl rfl rfl rfl (by kernel_rfl) (by kernel_rfl) (by kernel_rfl) (fun _ h => Mm.pick h [0, 1] (by decide)) (y_move rfl rfl) ?_
  refine hh_y 5 rfl rfl rfl rfl (by kernel_rfl) (by kernel_rfl) (by kernel_rfl) (fun _ h => Mm.pick h [0, 1] (by decide)) (y_move rfl rfl) ?_
  refine hh_y 6 rfl rfl rfl rfl (by kernel_rfl) (by kernel_rfl) (by kernel_rfl) (fun _ h => Mm.pick h [0, 1] (by decide)) (y_slc2 (lo := 16) rfl S22 rfl (rdF hb) rfl rfl (by first | omega | (simp only [ls_len, ns_len, List.length_append, List.length_take, List.length_drop, List.length_replicate, List.length_cons, List.length_nil, putL_len, shaL_len, overL_len, macKey_len, hmacL_len, tgL_len, outN_len, expN_len, infoL_len, derL_len]; omega) | (simp only [ls_len, ns_len, List.length_append, List.length_take, List.length_drop, List.length_replicate, List.length_cons, List.length_nil, putL_len, shaL_len, overL_len, macKey_len, hmacL_len, tgL_len, outN_len, expN_len, infoL_len, derL_len] at *; omega)) (by first | omega | (simp only [ls_len, ns_len, List.length_append, List.length_take, List.length_drop, List.length_replicate, List.length_cons, List.length_nil, putL_len, shaL_len, overL_len, macKey_len, hmacL_len, tgL_len, outN_len, expN_len, infoL_len, derL_len]; omega) | (simp only [ls_len, ns_len, List.length_append, List.length_take, List.length_drop, List.length_replicate, List.length_cons, List.length_nil, putL_len, shaL_len, overL_len, macKey_len, hmacL_len, tgL_len, outN_len, expN_len, infoL_len, derL_len] at *; omega))) ?_
  refine hh_i 1 rfl rfl rfl rfl (by kernel_rfl) (e_call rfl F53 rfl (fun w hw => r09_Derive_ct kl _ ([115, 101, 97, 108]) w ((rdF hk) w hw) (by first | omega | (simp only [List.length_append, List.length_take, List.length_drop, List.length_replicate, List.length_cons, List.length_nil, putL_len, shaL_len, overL_len, macKey_len, hmacL_len, tgL_len, outN_len, expN_len, infoL_len, derL_len]; omega) | (simp only [List.length_append, List.length_take, List.length_drop, List.length_replicate, List.length_cons, List.length_nil, putL_len, shaL_len, overL_len, macKey_len, hmacL_len, tgL_len, outN_len, expN_len, infoL_len, derL_len] at *; omega)) (by first | omega | decide | (simp; omega))) rfl) (fun _ _ h => Mm.pick h [1, 2] (by decide)) ?_; intro y35
  refine hh_i 7 rfl rfl rfl rfl (by kernel_rfl) (e_call rfl F60 rfl (fun w hw => r12_Over_ct (derL kl [115, 101, 97, 108]) (bl.take 16) _ _ ((bl.drop 16).take (bl.length - 32 - 16)) _ w (((rdW2 0 rfl (derL_len _ _))) w hw) (((rdQ0 (rdF hb) (n := 16) (by first | omega | (simp only [ls_len, ns_len, List.length_append, List.length_take, List.length_drop, List.length_replicate, List.length_cons, List.length_nil, putL_len, shaL_len, overL_len, macKey_len, hmacL_len, tgL_len, outN_len, expN_len, infoL_len, derL_len]; omega) | (simp only [ls_len, ns_len, List.length_append, List.length_take, List.length_drop, List.length_replicate, List.length_cons, List.length_nil, putL_len, shaL_len, overL_len, macKey_len, hmacL_len, tgL_len, outN_len, expN_len, infoL_len, derL_len] at *; omega)))) w hw) (((rdQ2 (rdF hb) (lo := 16) (hi := (bl.length - 32)) (n := (bl.length - 32 - 16)) (by first | omega | (simp only [ls_len, ns_len, List.length_append, List.length_take, List.length_drop, List.length_replicate, List.length_cons, List.length_nil, putL_len, shaL_len, overL_len, macKey_len, hmacL_len, tgL_len, outN_len, expN_len, infoL_len, derL_len]; omega) | (simp only [ls_len, ns_len, List.length_append, List.length_take, List.length_drop, List.length_replicate, List.length_cons, List.length_nil, putL_len, shaL_len, overL_len, macKey_len, hmacL_len, tgL_len, outN_len, expN_len, infoL_len, derL_len] at *; omega)) (by first | omega | (simp only [ls_len, ns_len, List.length_append, List.length_take, List.length_drop, List.length_replicate, List.length_cons, List.length_nil, putL_len, shaL_len, overL_len, macKey_len, hmacL_len, tgL_len, outN_len, expN_len, infoL_len, derL_len]; omega) | (simp only [ls_len, ns_len, List.length_append, List.length_take, List.length_drop, List.length_replicate, List.length_cons, List.length_nil, putL_len, shaL_len, overL_len, macKey_len, hmacL_len, tgL_len, outN_len, expN_len, infoL_len, derL_len] at *; omega)))) w hw) (by first | omega | (simp only [List.length_append, List.length_take, List.length_drop, List.length_replicate, List.length_cons, List.length_nil, putL_len, shaL_len, overL_len, macKey_len, hmacL_len, tgL_len, outN_len, expN_len, infoL_len, derL_len]; omega))) rfl) (fun _ _ h => Mm.pick h [2, 3] (by decide)) ?_; intro y41
  refine HH.mem (fun _ h => h.setr 0 rfl (congrArg (ls vb) (over_eq _ _ _).symm)) ?_
  refine hh_y 8 rfl rfl rfl rfl (by kernel_rfl) (by kernel_rfl) (by kernel_rfl) (fun _ h => Mm.pick h [2, 3] (by decide)) (y_extract rfl rfl rfl) ?_
  refine hh_y 9 rfl rfl rfl rfl (by kernel_rfl) (by kernel_rfl) (by kernel_rfl) (fun _ h => Mm.pick h [2, 3] (by decide)) (y_extract rfl rfl rfl) ?_
  refine hh_y 10 rfl rfl rfl rfl (by kernel_rfl) (by kernel_rfl) (by kernel_rfl) (fun _ h => Mm.pick h [2, 3] (by decide)) (y_assign rfl rfl) ?_
  refine hh_y 11 rfl rfl rfl rfl (by kernel_rfl) (by kernel_rfl) (by kernel_rfl) (fun _ h => Mm.pick h [2, 3] (by decide)) (y_assign rfl rfl) ?_
  refine hh_done (by kernel_rfl) ?_
  refine hq_then ?_
  refine hc_ret ?_
  exact hq_ret2 (y41) rfl (rv_tmp rfl) (rv_tmp rfl) (by rw [strFR_ok (derL_len _ _) (by first | omega | (simp only [List.length_append, List.length_take, List.length_drop, List.length_replicate, List.length_cons, List.length_nil, putL_len, shaL_len, overL_len, macKey_len, hmacL_len, tgL_len, outN_len, expN_len, infoL_len, derL_len]; omega)) (by first | omega | (simp only [List.length_append, List.length_take, List.length_drop, List.length_replicate, List.length_cons, List.length_nil, putL_len, shaL_len, overL_len, macKey_len, hmacL_len, tgL_len, outN_len, expN_len, infoL_len, derL_len]; omega))]; rfl) (fun _ h => (Mm.pick h [0] (by decide)).mm (by rw [← open_ref h2]; rfl))

theorem r13_Open_bad (kl : List UInt8) (kv : Value) (bl : List UInt8) (bv : Value) (w : World) (hk : Rd w kv (ls vb kl)) (hb : Rd w bv (ls vb bl)) (h1 : kl.length = 32) (h2 : 48 ≤ bl.length) (h3 : bl.length ≤ 60048) (ho : ¬ Opens kl bl) : Ct0 Tryd.prog 18 #[kv, bv] w (.tuple #[.slice none 0 0, vi 11]) := by
  refine ct0_of Tryd.func18 rfl Tryd.ntmps18 rfl ?_
  refine hc_seq ?_
  refine hc_region ?_
  refine hl_y rfl rfl rfl (y_assign rfl rfl) ?_
  refine hl_y rfl rfl rfl (y_assign (v := vi 0) rfl rfl) ?_
  refine hl_nil ?_
  refine hq_then ?_
  refine hc_seq ?_
  refine hc_seq ?_
  refine hc_region ?_
  refine hl_y rfl rfl rfl (y_move rfl rfl) ?_
  refine hl_y rfl rfl rfl (y_lenE (kl.length) rfl rfl S22 rfl (rdF hk) (by first | rfl | (simp only [ls_len, ns_len, List.length_append, List.length_take, List.length_drop, List.length_replicate, List.length_cons, List.length_nil, putL_len, shaL_len, overL_len, macKey_len, hmacL_len, tgL_len, outN_len, expN_len, infoL_len, derL_len]; done) | (simp only [ls_len, ns_len, List.length_append, List.length_take, List.length_drop, List.length_replicate, List.length_cons, List.length_nil, putL_len, shaL_len, overL_len, macKey_len, hmacL_len, tgL_len, outN_len, expN_len, infoL_len, derL_len]; omega))) ?_
  refine hl_y rfl rfl rfl (y_as (y_neqn (q := 32) rfl rfl rfl ) (congrArg Value.bool (decide_eq_false (by omega)))) ?_
  refine hl_y rfl rfl rfl (y_move rfl rfl) ?_
  refine hl_yg 3 10 false rfl rfl rfl rfl rfl (y_move rfl rfl) ?_
  refine hl_yg 3 10 false rfl rfl rfl rfl rfl (y_lenE (bl.length) rfl rfl S22 rfl (rdF hb) (by first | rfl | (simp only [ls_len, ns_len, List.length_append, List.length_take, List.length_drop, List.length_replicate, List.length_cons, List.length_nil, putL_len, shaL_len, overL_len, macKey_len, hmacL_len, tgL_len, outN_len, expN_len, infoL_len, derL_len]; done) | (simp only [ls_len, ns_len, List.length_append, List.length_take, List.length_drop, List.length_replicate, List.length_cons, List.length_nil, putL_len, shaL_len, overL_len, macKey_len, hmacL_len, tgL_len, outN_len, expN_len, infoL_len, derL_len]; omega))) ?_
  refine hl_yg 3 10 false rfl rfl rfl rfl rfl (y_as (y_lssn (q := 48) rfl rfl rfl ) (congrArg Value.bool (decide_eq_false (by omega)))) ?_
  refine hl_y rfl rfl rfl (y_pick (b := false) rfl rfl rfl) ?_
  refine hl_y rfl rfl rfl (y_move rfl rfl) ?_
  refine hl_yg 8 15 false rfl rfl rfl rfl rfl (y_move rfl rfl) ?_
  refine hl_yg 8 15 false rfl rfl rfl rfl rfl (y_lenE (bl.length) rfl rfl S22 rfl (rdF hb) (by first | rfl | (simp only [ls_len, ns_len, List.length_append, List.length_take, List.length_drop, List.length_replicate, List.length_cons, List.length_nil, putL_len, shaL_len, overL_len, macKey_len, hmacL_len, tgL_len, outN_len, expN_len, infoL_len, derL_len]; done) | (simp only [ls_len, ns_len, List.length_append, List.length_take, List.length_drop, List.length_replicate, List.length_cons, List.length_nil, putL_len, shaL_len, overL_len, macKey_len, hmacL_len, tgL_len, outN_len, expN_len, infoL_len, derL_len]; omega))) ?_
  refine hl_yg 8 15 false rfl rfl rfl rfl rfl (y_as (y_gtrn (q := 60048) rfl rfl rfl ) (congrArg Value.bool (decide_eq_false (by omega)))) ?_
  refine hl_y rfl rfl rfl (y_pick (b := false) rfl rfl rfl) ?_
  refine hl_nil ?_
  refine hq_then ?_
  refine hc_ifF rfl ?_
  refine hc_skip ?_
  refine hq_then ?_
  refine hc_seq ?_
  refine hc_region ?_
  refine hl_y rfl rfl rfl (y_move rfl rfl) ?_
  refine hl_y rfl rfl rfl (y_lenE (bl.length) rfl rfl S22 rfl (rdF hb) (by first | rfl | (simp only [ls_len, ns_len, List.length_append, List.length_take, List.length_drop, List.length_replicate, List.length_cons, List.length_nil, putL_len, shaL_len, overL_len, macKey_len, hmacL_len, tgL_len, outN_len, expN_len, infoL_len, derL_len]; done) | (simp only [ls_len, ns_len, List.length_append, List.length_take, List.length_drop, List.length_replicate, List.length_cons, List.length_nil, putL_len, shaL_len, overL_len, macKey_len, hmacL_len, tgL_len, outN_len, expN_len, infoL_len, derL_len]; omega))) ?_
  refine hl_y rfl rfl rfl (y_subn (q := 32) rfl rfl rfl (by first | omega | (simp only [ls_len, ns_len, List.length_append, List.length_take, List.length_drop, List.length_replicate, List.length_cons, List.length_nil, putL_len, shaL_len, overL_len, macKey_len, hmacL_len, tgL_len, outN_len, expN_len, infoL_len, derL_len]; omega) | (simp only [ls_len, ns_len, List.length_append, List.length_take, List.length_drop, List.length_replicate, List.length_cons, List.length_nil, putL_len, shaL_len, overL_len, macKey_len, hmacL_len, tgL_len, outN_len, expN_len, infoL_len, derL_len] at *; omega)) (by first | omega | (simp only [ls_len, ns_len, List.length_append, List.length_take, List.length_drop, List.length_replicate, List.length_cons, List.length_nil, putL_len, shaL_len, overL_len, macKey_len, hmacL_len, tgL_len, outN_len, expN_len, infoL_len, derL_len]; omega) | (simp only [ls_len, ns_len, List.length_append, List.length_take, List.length_drop, List.length_replicate, List.length_cons, List.length_nil, putL_len, shaL_len, overL_len, macKey_len, hmacL_len, tgL_len, outN_len, expN_len, infoL_len, derL_len] at *; omega))) ?_
  refine hl_y rfl rfl rfl (y_assign rfl rfl) ?_
  refine hl_nil ?_
  refine hq_then ?_
  refine hc_seq ?_
  refine hc_seq ?_
  refine hc_drawP [] follows_mixed ?_
  refine hh_y 0 rfl rfl rfl rfl (by kernel_rfl) (by kernel_rfl) (by kernel_rfl) (fun _ h => Mm.pick h [] (by decide)) (y_move rfl rfl) ?_
  refine hh_y 2 rfl rfl rfl rfl (by kernel_rfl) (by kernel_rfl) (by kernel_rfl) (fun _ h => Mm.pick h [] (by decide)) (y_move rfl rfl) ?_
  refine hh_y 3 rfl rfl rfl rfl (by kernel_rfl) (by kernel_rfl) (by kernel_rfl) (fun _ h => Mm.pick h [] (by decide)) (y_move rfl rfl) ?_
  refine hh_y 4 rfl rfl rfl rfl (by kernel_rfl) (by kernel_rfl) (by kernel_rfl) (fun _ h => Mm.pick h [] (by decide)) (y_slc0 rfl S22 rfl (rdF hb) rfl (by first | omega | (simp only [ls_len, ns_len, List.length_append, List.length_take, List.length_drop, List.length_replicate, List.length_cons, List.length_nil, putL_len, shaL_len, overL_len, macKey_len, hmacL_len, tgL_len, outN_len, expN_len, infoL_len, derL_len]; omega) | (simp only [ls_len, ns_len, List.length_append, List.length_take, List.length_drop, List.length_replicate, List.length_cons, List.length_nil, putL_len, shaL_len, overL_len, macKey_len, hmacL_len, tgL_len, outN_len, expN_len, infoL_len, derL_len] at *; omega))) ?_
  refine hh_y 6 rfl rfl rfl rfl (by kernel_rfl) (by kernel_rfl) (by kernel_rfl) (fun _ h => Mm.pick h [] (by decide)) (y_move rfl rfl) ?_
  refine hh_y 7 rfl rfl rfl rfl (by kernel_rfl) (by kernel_rfl) (by kernel_rfl) (fun _ h => Mm.pick h [] (by decide)) (y_move rfl rfl) ?_
  refine hh_y 8 rfl rfl rfl rfl (by kernel_rfl) (by kernel_rfl) (by kernel_rfl) (fun _ h => Mm.pick h [] (by decide)) (y_slc (hi := bl.length) rfl S22 rfl (rdF hb) rfl (by first | rfl | (simp only [ls_len, ns_len, List.length_append, List.length_take, List.length_drop, List.length_replicate, List.length_cons, List.length_nil, putL_len, shaL_len, overL_len, macKey_len, hmacL_len, tgL_len, outN_len, expN_len, infoL_len, derL_len]; done) | (simp only [ls_len, ns_len, List.length_append, List.length_take, List.length_drop, List.length_replicate, List.length_cons, List.length_nil, putL_len, shaL_len, overL_len, macKey_len, hmacL_len, tgL_len, outN_len, expN_len, infoL_len, derL_len]; omega)) (by first | omega | (simp only [ls_len, ns_len, List.length_append, List.length_take, List.length_drop, List.length_replicate, List.length_cons, List.length_nil, putL_len, shaL_len, overL_len, macKey_len, hmacL_len, tgL_len, outN_len, expN_len, infoL_len, derL_len]; omega) | (simp only [ls_len, ns_len, List.length_append, List.length_take, List.length_drop, List.length_replicate, List.length_cons, List.length_nil, putL_len, shaL_len, overL_len, macKey_len, hmacL_len, tgL_len, outN_len, expN_len, infoL_len, derL_len] at *; omega))) ?_
  refine hh_i 1 rfl rfl rfl rfl (by kernel_rfl) (e_call rfl F53 rfl (fun w hw => r09_Derive_ct kl _ ([116, 97, 103]) w ((rdF hk) w hw) (by first | omega | (simp only [List.length_append, List.length_take, List.length_drop, List.length_replicate, List.length_cons, List.length_nil, putL_len, shaL_len, overL_len, macKey_len, hmacL_len, tgL_len, outN_len, expN_len, infoL_len, derL_len]; omega) | (simp only [List.length_append, List.length_take, List.length_drop, List.length_replicate, List.length_cons, List.length_nil, putL_len, shaL_len, overL_len, macKey_len, hmacL_len, tgL_len, outN_len, expN_len, infoL_len, derL_len] at *; omega)) (by first | omega | decide | (simp; omega))) rfl) (fun _ _ h => Mm.pick h [] (by decide)) ?_; intro y24
  refine hh_i 5 rfl rfl rfl rfl (by kernel_rfl) (e_call rfl F42 rfl (fun w hw => r08_Of_ct (derL kl ([116, 97, 103])) _ (bl.take (bl.length - 32)) _ w (((rdW2 0 rfl (derL_len _ _))) w hw) (by first | omega | (simp only [List.length_append, List.length_take, List.length_drop, List.length_replicate, List.length_cons, List.length_nil, putL_len, shaL_len, overL_len, macKey_len, hmacL_len, tgL_len, outN_len, expN_len, infoL_len, derL_len]; omega)) (((rdQ0 (rdF hb) (n := (bl.length - 32)) (by first | omega | (simp only [ls_len, ns_len, List.length_append, List.length_take, List.length_drop, List.length_replicate, List.length_cons, List.length_nil, putL_len, shaL_len, overL_len, macKey_len, hmacL_len, tgL_len, outN_len, expN_len, infoL_len, derL_len]; omega) | (simp only [ls_len, ns_len, List.length_append, List.length_take, List.length_drop, List.length_replicate, List.length_cons, List.length_nil, putL_len, shaL_len, overL_len, macKey_len, hmacL_len, tgL_len, outN_len, expN_len, infoL_len, derL_len] at *; omega)))) w hw) (by first | omega | (simp only [List.length_append, List.length_take, List.length_drop, List.length_replicate, List.length_cons, List.length_nil, putL_len, shaL_len, overL_len, macKey_len, hmacL_len, tgL_len, outN_len, expN_len, infoL_len, derL_len]; omega))) rfl) (fun _ _ h => Mm.pick h [] (by decide)) ?_; intro y28
  refine hh_i 9 rfl rfl rfl rfl (by kernel_rfl) (e_call0 rfl F19 rfl (fun w hw => r01_Same_f _ _ _ _ w ((rdR 0 rfl) w hw) (((rdQ1 (rdF hb) (lo := (bl.length - 32)) (hi := bl.length) (by first | omega | (simp only [ls_len, ns_len, List.length_append, List.length_take, List.length_drop, List.length_replicate, List.length_cons, List.length_nil, putL_len, shaL_len, overL_len, macKey_len, hmacL_len, tgL_len, outN_len, expN_len, infoL_len, derL_len]; omega) | (simp only [ls_len, ns_len, List.length_append, List.length_take, List.length_drop, List.length_replicate, List.length_cons, List.length_nil, putL_len, shaL_len, overL_len, macKey_len, hmacL_len, tgL_len, outN_len, expN_len, infoL_len, derL_len] at *; omega)) (by first | omega | (simp only [ls_len, ns_len, List.length_append, List.length_take, List.length_drop, List.length_replicate, List.length_cons, List.length_nil, putL_len, shaL_len, overL_len, macKey_len, hmacL_len, tgL_len, outN_len, expN_len, infoL_len, derL_len]; omega) | (simp only [ls_len, ns_len, List.length_append, List.length_take, List.length_drop, List.length_replicate, List.length_cons, List.length_nil, putL_len, shaL_len, overL_len, macKey_len, hmacL_len, tgL_len, outN_len, expN_len, infoL_len, derL_len] at *; omega)))) w hw) (by first | omega | (simp only [List.length_append, List.length_take, List.length_drop, List.length_replicate, List.length_cons, List.length_nil, putL_len, shaL_len, overL_len, macKey_len, hmacL_len, tgL_len, outN_len, expN_len, infoL_len, derL_len]; omega)) ho) rfl) (fun _ _ h => Mm.pick h [] (by decide)) ?_; intro _
  refine hh_y 10 rfl rfl rfl rfl (by kernel_rfl) (by kernel_rfl) (by kernel_rfl) (fun _ h => Mm.pick h [] (by decide)) (y_not rfl rfl) ?_
  refine hh_done (by kernel_rfl) ?_
  refine hq_then ?_
  refine hc_ifT rfl ?_
  refine hc_seq ?_
  refine hc_region ?_
  refine hl_y rfl rfl rfl (y_assign rfl rfl) ?_
  refine hl_y rfl rfl rfl (y_assign (v := vi 11) rfl rfl) ?_
  refine hl_nil ?_
  refine hq_then ?_
  refine hc_ret ?_
  exact hq_then_ret (hq_ret2 (()) rfl (rv_tmp rfl) (rv_tmp rfl) rfl (fun _ h => Mm.pick h [] (by simp)))

theorem r13_Open_no (kl : List UInt8) (kv : Value) (bl : List UInt8) (bv : Value) (w : World) (hk : Rd w kv (ls vb kl)) (hb : Rd w bv (ls vb bl)) (h : ¬ (kl.length = 32 ∧ 48 ≤ bl.length ∧ bl.length ≤ 60048)) (hm : bl.length ≤ 9223372036854775807) : Ct0 Tryd.prog 18 #[kv, bv] w (.tuple #[.slice none 0 0, vi 4]) := by
  refine ct0_of Tryd.func18 rfl Tryd.ntmps18 rfl ?_
  refine hc_seq ?_
  refine hc_region ?_
  refine hl_y rfl rfl rfl (y_assign rfl rfl) ?_
  refine hl_y rfl rfl rfl (y_assign (v := vi 0) rfl rfl) ?_
  refine hl_nil ?_
  refine hq_then ?_
  refine hc_seq ?_
  refine hc_seq ?_
  rcases Decidable.em (kl.length = 32) with c0 | c0
  · skip
    rcases Decidable.em (bl.length < 48) with c1 | c1
    · skip
      refine hc_region ?_
      refine hl_y rfl rfl rfl (y_move rfl rfl) ?_
      refine hl_y rfl rfl rfl (y_lenE (kl.length) rfl rfl S22 rfl (rdF hk) (by first | rfl | (simp only [ls_len, ns_len, List.length_append, List.length_take, List.length_drop, List.length_replicate, List.length_cons, List.length_nil, putL_len, shaL_len, overL_len, macKey_len, hmacL_len, tgL_len, outN_len, expN_len, infoL_len, derL_len]; done) | (simp only [ls_len, ns_len, List.length_append, List.length_take, List.length_drop, List.length_replicate, List.length_cons, List.length_nil, putL_len, shaL_len, overL_len, macKey_len, hmacL_len, tgL_len, outN_len, expN_len, infoL_len, derL_len]; omega))) ?_
      refine hl_y rfl rfl rfl (y_as (y_neqn (q := 32) rfl rfl rfl ) (congrArg Value.bool (decide_eq_false (by omega)))) ?_
      refine hl_y rfl rfl rfl (y_move rfl rfl) ?_
      refine hl_yg 3 10 false rfl rfl rfl rfl rfl (y_move rfl rfl) ?_
      refine hl_yg 3 10 false rfl rfl rfl rfl rfl (y_lenE (bl.length) rfl rfl S22 rfl (rdF hb) (by first | rfl | (simp only [ls_len, ns_len, List.length_append, List.length_take, List.length_drop, List.length_replicate, List.length_cons, List.length_nil, putL_len, shaL_len, overL_len, macKey_len, hmacL_len, tgL_len, outN_len, expN_len, infoL_len, derL_len]; done) | (simp only [ls_len, ns_len, List.length_append, List.length_take, List.length_drop, List.length_replicate, List.length_cons, List.length_nil, putL_len, shaL_len, overL_len, macKey_len, hmacL_len, tgL_len, outN_len, expN_len, infoL_len, derL_len]; omega))) ?_
      refine hl_yg 3 10 false rfl rfl rfl rfl rfl (y_as (y_lssn (q := 48) rfl rfl rfl ) (congrArg Value.bool (decide_eq_true (by omega)))) ?_
      refine hl_y rfl rfl rfl (y_pick (b := false) rfl rfl rfl) ?_
      refine hl_y rfl rfl rfl (y_move rfl rfl) ?_
      refine hl_no 8 15 false true rfl rfl rfl rfl rfl rfl ?_
      refine hl_no 8 15 false true rfl rfl rfl rfl rfl rfl ?_
      refine hl_no 8 15 false true rfl rfl rfl rfl rfl rfl ?_
      refine hl_y rfl rfl rfl (y_pick (b := true) rfl rfl rfl) ?_
      refine hl_nil ?_
      refine hq_then ?_
      refine hc_ifT rfl ?_
      refine hc_seq ?_
      refine hc_region ?_
      refine hl_y rfl rfl rfl (y_assign rfl rfl) ?_
      refine hl_y rfl rfl rfl (y_assign (v := vi 4) rfl rfl) ?_
      refine hl_nil ?_
      refine hq_then ?_
      refine hc_ret ?_
      exact hq_then_ret (hq_ret2 (()) rfl (rv_tmp rfl) (rv_tmp rfl) rfl (fun _ h => Mm.pick h [] (by simp)))
    · skip
      refine hc_region ?_
      refine hl_y rfl rfl rfl (y_move rfl rfl) ?_
      refine hl_y rfl rfl rfl (y_lenE (kl.length) rfl rfl S22 rfl (rdF hk) (by first | rfl | (simp only [ls_len, ns_len, List.length_append, List.length_take, List.length_drop, List.length_replicate, List.length_cons, List.length_nil, putL_len, shaL_len, overL_len, macKey_len, hmacL_len, tgL_len, outN_len, expN_len, infoL_len, derL_len]; done) | (simp only [ls_len, ns_len, List.length_append, List.length_take, List.length_drop, List.length_replicate, List.length_cons, List.length_nil, putL_len, shaL_len, overL_len, macKey_len, hmacL_len, tgL_len, outN_len, expN_len, infoL_len, derL_len]; omega))) ?_
      refine hl_y rfl rfl rfl (y_as (y_neqn (q := 32) rfl rfl rfl ) (congrArg Value.bool (decide_eq_false (by omega)))) ?_
      refine hl_y rfl rfl rfl (y_move rfl rfl) ?_
      refine hl_yg 3 10 false rfl rfl rfl rfl rfl (y_move rfl rfl) ?_
      refine hl_yg 3 10 false rfl rfl rfl rfl rfl (y_lenE (bl.length) rfl rfl S22 rfl (rdF hb) (by first | rfl | (simp only [ls_len, ns_len, List.length_append, List.length_take, List.length_drop, List.length_replicate, List.length_cons, List.length_nil, putL_len, shaL_len, overL_len, macKey_len, hmacL_len, tgL_len, outN_len, expN_len, infoL_len, derL_len]; done) | (simp only [ls_len, ns_len, List.length_append, List.length_take, List.length_drop, List.length_replicate, List.length_cons, List.length_nil, putL_len, shaL_len, overL_len, macKey_len, hmacL_len, tgL_len, outN_len, expN_len, infoL_len, derL_len]; omega))) ?_
      refine hl_yg 3 10 false rfl rfl rfl rfl rfl (y_as (y_lssn (q := 48) rfl rfl rfl ) (congrArg Value.bool (decide_eq_false (by omega)))) ?_
      refine hl_y rfl rfl rfl (y_pick (b := false) rfl rfl rfl) ?_
      refine hl_y rfl rfl rfl (y_move rfl rfl) ?_
      refine hl_yg 8 15 false rfl rfl rfl rfl rfl (y_move rfl rfl) ?_
      refine hl_yg 8 15 false rfl rfl rfl rfl rfl (y_lenE (bl.length) rfl rfl S22 rfl (rdF hb) (by first | rfl | (simp only [ls_len, ns_len, List.length_append, List.length_take, List.length_drop, List.length_replicate, List.length_cons, List.length_nil, putL_len, shaL_len, overL_len, macKey_len, hmacL_len, tgL_len, outN_len, expN_len, infoL_len, derL_len]; done) | (simp only [ls_len, ns_len, List.length_append, List.length_take, List.length_drop, List.length_replicate, List.length_cons, List.length_nil, putL_len, shaL_len, overL_len, macKey_len, hmacL_len, tgL_len, outN_len, expN_len, infoL_len, derL_len]; omega))) ?_
      refine hl_yg 8 15 false rfl rfl rfl rfl rfl (y_as (y_gtrn (q := 60048) rfl rfl rfl ) (congrArg Value.bool (decide_eq_true (by omega)))) ?_
      refine hl_y rfl rfl rfl (y_pick (b := false) rfl rfl rfl) ?_
      refine hl_nil ?_
      refine hq_then ?_
      refine hc_ifT rfl ?_
      refine hc_seq ?_
      refine hc_region ?_
      refine hl_y rfl rfl rfl (y_assign rfl rfl) ?_
      refine hl_y rfl rfl rfl (y_assign (v := vi 4) rfl rfl) ?_
      refine hl_nil ?_
      refine hq_then ?_
      refine hc_ret ?_
      exact hq_then_ret (hq_ret2 (()) rfl (rv_tmp rfl) (rv_tmp rfl) rfl (fun _ h => Mm.pick h [] (by simp)))
  · skip
    refine hc_region ?_
    refine hl_y rfl rfl rfl (y_move rfl rfl) ?_
    refine hl_y rfl rfl rfl (y_lenE (kl.length) rfl rfl S22 rfl (rdF hk) (by first | rfl | (simp only [ls_len, ns_len, List.length_append, List.length_take, List.length_drop, List.length_replicate, List.length_cons, List.length_nil, putL_len, shaL_len, overL_len, macKey_len, hmacL_len, tgL_len, outN_len, expN_len, infoL_len, derL_len]; done) | (simp only [ls_len, ns_len, List.length_append, List.length_take, List.length_drop, List.length_replicate, List.length_cons, List.length_nil, putL_len, shaL_len, overL_len, macKey_len, hmacL_len, tgL_len, outN_len, expN_len, infoL_len, derL_len]; omega))) ?_
    refine hl_y rfl rfl rfl (y_as (y_neqn (q := 32) rfl rfl rfl ) (congrArg Value.bool (decide_eq_true (by omega)))) ?_
    refine hl_y rfl rfl rfl (y_move rfl rfl) ?_
    refine hl_no 3 10 false true rfl rfl rfl rfl rfl rfl ?_
    refine hl_no 3 10 false true rfl rfl rfl rfl rfl rfl ?_
    refine hl_no 3 10 false true rfl rfl rfl rfl rfl rfl ?_
    refine hl_y rfl rfl rfl (y_pick (b := true) rfl rfl rfl) ?_
    refine hl_y rfl rfl rfl (y_move rfl rfl) ?_
    refine hl_no 8 15 false true rfl rfl rfl rfl rfl rfl ?_
    refine hl_no 8 15 false true rfl rfl rfl rfl rfl rfl ?_
    refine hl_no 8 15 false true rfl rfl rfl rfl rfl rfl ?_
    refine hl_y rfl rfl rfl (y_pick (b := true) rfl rfl rfl) ?_
    refine hl_nil ?_
    refine hq_then ?_
    refine hc_ifT rfl ?_
    refine hc_seq ?_
    refine hc_region ?_
    refine hl_y rfl rfl rfl (y_assign rfl rfl) ?_
    refine hl_y rfl rfl rfl (y_assign (v := vi 4) rfl rfl) ?_
    refine hl_nil ?_
    refine hq_then ?_
    refine hc_ret ?_
    exact hq_then_ret (hq_ret2 (()) rfl (rv_tmp rfl) (rv_tmp rfl) rfl (fun _ h => Mm.pick h [] (by simp)))

end Go.Proofs.YtcdidapkpfnphaaDoor
