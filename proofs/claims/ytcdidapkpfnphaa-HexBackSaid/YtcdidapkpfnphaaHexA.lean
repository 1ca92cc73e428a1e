/- Bytes as texts, and texts as bytes: what each call gives back. -/
import Derived.Test.YtcdidapkpfnphaaTypes
import Derived.Test.YtcdidapkpfnphaaSpecHex
import Derived.Test.YtcdidapkpfnphaaLibK
namespace Go.Proofs.Ytcdidapkpfnphaa
open Go.RowKit
set_option linter.unusedVariables false
set_option linter.unusedSimpArgs false
theorem par_step {l : List UInt8} {k : Nat} (h : k % 2 = 1) : ls vb (parN l (k / 2) ++ [hiF l k <<< UInt8.ofNat 4 ||| valF (l.getD k 0)]) = ls vb (parN l ((k + 1) / 2)) := by
  rw [show (k + 1) / 2 = k / 2 + 1 from by omega, ← parN_next, hiF, if_neg (by omega), if_pos h, show 2 * (k / 2) = k - 1 from by omega, show k - 1 + 1 = k from by omega]
theorem hex_digit_ct (n : UInt8) (w : World) : Ct0 Try.prog 57 #[vb n] w (vb (hexD n)) := by
  refine ct0_of Try.func57 rfl Try.ntmps57 rfl ?_
  refine hc_seq ?_
  refine hc_region ?_
  refine hl_y rfl rfl rfl (y_assign (v := vb 0) rfl rfl) ?_
  refine hl_nil ?_
  refine hq_then ?_
  refine hc_seq ?_
  refine hc_seq ?_
  refine hc_region ?_
  refine hl_y rfl rfl rfl (y_move rfl rfl) ?_
  refine hl_y rfl rfl rfl (y_lssb (q := 10) rfl rfl rfl) ?_
  refine hl_nil ?_
  refine hq_then ?_
  refine hc_if rfl (fun c0 => ?_) (fun c0 => ?_)
  · replace c0 := of_decide_eq_true c0
    refine hc_seq ?_
    refine hc_region ?_
    refine hl_y rfl rfl rfl (y_move rfl rfl) ?_
    refine hl_y rfl rfl rfl (y_addb (p := 48) rfl rfl rfl) ?_
    refine hl_y rfl rfl rfl (y_assign rfl rfl) ?_
    refine hl_nil ?_
    refine hq_then ?_
    refine hc_ret ?_
    exact hq_then_ret (hq_ret1 (()) rfl (rv_tmp rfl) (by rw [hexD, if_pos c0]) (fun _ h => Mm.pick h [] (by simp)))
  · replace c0 := of_decide_eq_false c0
    refine hc_skip ?_
    refine hq_then ?_
    refine hc_seq ?_
    refine hc_region ?_
    refine hl_y rfl rfl rfl (y_move rfl rfl) ?_
    refine hl_y rfl rfl rfl (y_addb (p := 97) rfl rfl rfl) ?_
    refine hl_y rfl rfl rfl (y_subb (q := 10) rfl rfl rfl) ?_
    refine hl_y rfl rfl rfl (y_assign rfl rfl) ?_
    refine hl_nil ?_
    refine hq_then ?_
    refine hc_ret ?_
    exact hq_ret1 (()) rfl (rv_tmp rfl) (by rw [hexD, if_neg c0]) (fun _ h => Mm.pick h [] (by simp))

theorem hex_Print_ct (l : List UInt8) (v : Value) (w : World) (hv : Rd w v (ls vb l)) (hm : l.length ≤ 35184372088832) : Ct0 Try.prog 16 #[v] w (vs (hexL l)) := by
  refine ct0_of Try.func16 rfl Try.ntmps16 rfl ?_
  refine hc_seq ?_
  refine hc_region ?_
  refine hl_y rfl rfl rfl (y_assign (v := vs []) rfl rfl) ?_
  refine hl_nil ?_
  refine hq_then ?_
  refine hc_seq ?_
  refine hc_region ?_
  refine hl_y rfl rfl rfl (y_move rfl rfl) ?_
  refine hl_y rfl rfl rfl (y_lenE (l.length) rfl rfl S22 rfl (rdF hv) (by first | rfl | simp only [ls_len, ns_len] | (simp only [ls_len, ns_len]; omega))) ?_
  refine hl_y rfl rfl rfl (y_muln (p := 2) rfl rfl rfl (by omega)) ?_
  refine hl_i rfl rfl rfl (e_make (l := 0) rfl S22 M5 rfl rfl rfl (by omega) (by omega) (by omega)) ?_; intro g9
  refine hl_y rfl rfl rfl (y_assign rfl rfl) ?_
  refine hl_nil ?_
  refine hq_then ?_
  refine hc_seq ?_
  refine hc_seq ?_
  refine hc_region ?_
  refine hl_y rfl rfl rfl (y_move rfl rfl) ?_
  refine hl_y rfl rfl rfl (y_lenE (l.length) rfl rfl S22 rfl (rdF hv) (by first | rfl | simp only [ls_len, ns_len] | (simp only [ls_len, ns_len]; omega))) ?_
  refine hl_y rfl rfl rfl (y_move (v := vi 0) rfl rfl) ?_
  refine hl_nil ?_
  refine hq_then ?_
  refine hc_block ?_
  refine hc_loop2 (fun k u => k ≤ l.length) (fun k u => l.length - k) (fun k u => [(10, v), (11, vi l.length), (12, vi k), (3, u)]) (fun k u => Mm w [.row 5 u (ls vb (hexL (l.take k)))]) (0) (.slice (some ⟨g9, 0, none⟩) 0 (2 * l.length)) (by omega) ⟨rfl, lk_int rfl (by omega), lk_int rfl (by omega), rfl, trivial⟩ (fun _ h => mm_mk 0 rfl (by omega) _ h) ?_
  intro k u hk
  refine hc_seq ?_
  refine hc_region ?_
  refine hl_y rfl rfl rfl (y_lssn rfl rfl rfl ) ?_
  refine hl_nil ?_
  refine hq_then ?_
  refine hc_seq ?_
  refine hc_if rfl (fun c0 => ?_) (fun c0 => ?_)
  · replace c0 := of_decide_eq_true c0
    refine hc_skip ?_
    refine hq_then ?_
    refine hc_seq ?_
    refine hc_block ?_
    refine hc_seq ?_
    refine hc_region ?_
    refine hl_y rfl rfl rfl (y_ixs rfl S22 rfl (rdF hv) rfl (by first | omega | (simp only [ls_len, ns_len]; omega) | (simp only [List.length_take, List.length_drop, ls_len, ns_len]; omega))) ?_
    refine hl_y rfl rfl rfl (y_ldb rfl O5 rfl (rdF hv) (by omega)) ?_
    refine hl_y rfl rfl rfl (y_assign rfl rfl) ?_
    refine hl_nil ?_
    refine hq_then ?_
    refine hc_region ?_
    refine hl_y rfl rfl rfl (y_move rfl rfl) ?_
    refine hl_y rfl rfl rfl (y_move rfl rfl) ?_
    refine hl_y rfl rfl rfl (y_shrb (m := 4) rfl rfl rfl rfl (by omega)) ?_
    refine hl_i rfl rfl rfl (e_call0 rfl F57 rfl (fun w hw => hex_digit_ct _ w) rfl) ?_; intro _
    refine hl_y rfl rfl rfl (y_move rfl rfl) ?_
    refine hl_y rfl rfl rfl (y_andb (q := 15) rfl rfl rfl) ?_
    refine hl_i rfl rfl rfl (e_call0 rfl F57 rfl (fun w hw => hex_digit_ct _ w) rfl) ?_; intro _
    refine hl_i rfl rfl rfl (e_lit2 rfl S22 Z1_5 rfl rfl rfl rfl rfl) ?_; intro g23
    refine hl_i rfl rfl rfl (e_appb 1 rfl A22_5 rfl rfl rfl (rdB 0 rfl rfl rfl (by omega)) (show _ = ls vb [hexD (l.getD k 0 >>> UInt8.ofNat 4), hexD (l.getD k 0 &&& 15)] from rfl) (by rw [hexL_len, List.length_take]; simp; omega)) ?_; intro y24
    refine hl_y rfl rfl rfl (y_assign rfl rfl) ?_
    refine hl_nil ?_
    refine hq_in (hq_then ?_)
    refine hc_region ?_
    refine hl_y rfl rfl rfl (y_addn (q := 1) rfl rfl rfl (by omega)) ?_
    refine hl_y rfl rfl rfl (y_move rfl rfl) ?_
    refine hl_nil ?_
    exact hq_round2 (k + 1) (y24) (by omega) (by omega) ⟨rfl, lk_int rfl (by omega), lk_int rfl (by omega), rfl, trivial⟩ (fun _ h => (Mm.pick h [1] (by decide)).setr 0 rfl (by rw [hexL_next (by omega)]))
  · replace c0 := of_decide_eq_false c0
    refine hc_exit ?_
    refine hq_then_exit (hq_loop_exit2 (hq_in_same (hq_then ?_)))
    refine hc_seq ?_
    refine hc_region ?_
    refine hl_y rfl rfl rfl (y_move rfl rfl) ?_
    refine hl_y rfl rfl rfl (y_str rfl S22.1 U5 U9 rfl (rdR 0 rfl)) ?_
    refine hl_y rfl rfl rfl (y_assign rfl rfl) ?_
    refine hl_nil ?_
    refine hq_then ?_
    refine hc_ret ?_
    exact hq_ret1 (()) rfl (rv_tmp rfl) (by rw [List.take_of_length_le (by omega)]) (fun _ h => Mm.pick h [] (by simp))

theorem hex_Short_ct (l : List UInt8) (v : Value) (w : World) (hv : Rd w v (ls vb l)) (hm : l.length ≤ 35184372088832) : Ct0 Try.prog 17 #[v] w (vs (shortL l)) := by
  refine ct0_of Try.func17 rfl Try.ntmps17 rfl ?_
  refine hc_seq ?_
  refine hc_region ?_
  refine hl_y rfl rfl rfl (y_assign (v := vs []) rfl rfl) ?_
  refine hl_nil ?_
  refine hq_then ?_
  refine hc_seq ?_
  refine hc_seq ?_
  refine hc_region ?_
  refine hl_y rfl rfl rfl (y_move rfl rfl) ?_
  refine hl_y rfl rfl rfl (y_lenE (l.length) rfl rfl S22 rfl (rdF hv) (by first | rfl | simp only [ls_len, ns_len] | (simp only [ls_len, ns_len]; omega))) ?_
  refine hl_y rfl rfl rfl (y_leqn (q := 4) rfl rfl rfl ) ?_
  refine hl_nil ?_
  refine hq_then ?_
  refine hc_if rfl (fun c0 => ?_) (fun c0 => ?_)
  · replace c0 := of_decide_eq_true c0
    refine hc_seq ?_
    refine hc_region ?_
    refine hl_y rfl rfl rfl (y_move rfl rfl) ?_
    refine hl_i rfl rfl rfl (e_call0 rfl F16 rfl (fun w hw => hex_Print_ct _ _ w ((rdF hv) w hw) (by omega)) rfl) ?_; intro _
    refine hl_y rfl rfl rfl (y_assign rfl rfl) ?_
    refine hl_nil ?_
    refine hq_then ?_
    refine hc_ret ?_
    exact hq_then_ret (hq_ret1 (()) rfl (rv_tmp rfl) (by rw [shortL, if_pos (by omega)]) (fun _ h => Mm.pick h [] (by simp)))
  · replace c0 := of_decide_eq_false c0
    refine hc_skip ?_
    refine hq_then ?_
    refine hc_seq ?_
    refine hc_region ?_
    refine hl_y rfl rfl rfl (y_move rfl rfl) ?_
    refine hl_y rfl rfl rfl (y_slc0 (hi := 3) rfl S22 rfl (rdF hv) rfl (by rw [ls_len]; omega)) ?_
    refine hl_i rfl rfl rfl (e_call0 rfl F16 rfl (fun w hw => hex_Print_ct (l.take 3) _ w ((rdS2 (rdF hv) (by omega)) w hw) (by rw [List.length_take]; omega)) rfl) ?_; intro _
    refine hl_y rfl rfl rfl (y_cat (q := [46, 46]) rfl rfl rfl (by rw [hexL_len, List.length_take]; simp; omega)) ?_
    refine hl_y rfl rfl rfl (y_assign rfl rfl) ?_
    refine hl_nil ?_
    refine hq_then ?_
    refine hc_ret ?_
    exact hq_ret1 (()) rfl (rv_tmp rfl) (by rw [shortL, if_neg (by omega)]) (fun _ h => Mm.pick h [] (by simp))

theorem hex_value_ct (c : UInt8) (w : World) : Ct0 Try.prog 60 #[vb c] w (.tuple #[vb (valF c), .bool (isF c)]) := by
  refine ct0_of Try.func60 rfl Try.ntmps60 rfl ?_
  refine hc_seq ?_
  refine hc_region ?_
  refine hl_y rfl rfl rfl (y_assign (v := vb 0) rfl rfl) ?_
  refine hl_y rfl rfl rfl (y_assign rfl rfl) ?_
  refine hl_nil ?_
  refine hq_then ?_
  refine hc_seq ?_
  refine hc_block ?_
  refine hc_seq ?_
  rcases Decidable.em ((48 : UInt8).toNat ≤ c.toNat) with c0 | c0
  · skip
    rcases Decidable.em (c.toNat ≤ (57 : UInt8).toNat) with c1 | c1
    · skip
      refine hc_region ?_
      refine hl_y rfl rfl rfl (y_move rfl rfl) ?_
      refine hl_y rfl rfl rfl (y_as (y_geqb (q := 48) rfl rfl rfl) (congrArg Value.bool (decide_eq_true (c0)))) ?_
      refine hl_y rfl rfl rfl (y_move rfl rfl) ?_
      refine hl_yg 2 7 true rfl rfl rfl rfl rfl (y_move rfl rfl) ?_
      refine hl_yg 2 7 true rfl rfl rfl rfl rfl (y_as (y_leqb (q := 57) rfl rfl rfl) (congrArg Value.bool (decide_eq_true (c1)))) ?_
      refine hl_y rfl rfl rfl (y_pick (b := true) rfl rfl rfl) ?_
      refine hl_y rfl rfl rfl (y_assign rfl rfl) ?_
      refine hl_nil ?_
      refine hq_then ?_
      refine hc_ifT rfl ?_
      refine hc_seq ?_
      refine hc_region ?_
      refine hl_y rfl rfl rfl (y_move rfl rfl) ?_
      refine hl_y rfl rfl rfl (y_subb (q := 48) rfl rfl rfl) ?_
      refine hl_y rfl rfl rfl (y_assign rfl rfl) ?_
      refine hl_y rfl rfl rfl (y_assign rfl rfl) ?_
      refine hl_nil ?_
      refine hq_then ?_
      refine hc_ret ?_
      exact hq_in_ret (hq_then_ret (hq_ret2 (()) rfl (rv_tmp rfl) (rv_tmp rfl) (by first | exact val_dig ⟨c0, c1⟩ | exact val_let (fun h => by omega) ⟨c2, c3⟩ | exact val_no (fun h => by omega) (fun h => by omega)) (fun _ h => Mm.pick h [] (by simp))))
    · skip
      refine hc_region ?_
      refine hl_y rfl rfl rfl (y_move rfl rfl) ?_
      refine hl_y rfl rfl rfl (y_as (y_geqb (q := 48) rfl rfl rfl) (congrArg Value.bool (decide_eq_true (c0)))) ?_
      refine hl_y rfl rfl rfl (y_move rfl rfl) ?_
      refine hl_yg 2 7 true rfl rfl rfl rfl rfl (y_move rfl rfl) ?_
      refine hl_yg 2 7 true rfl rfl rfl rfl rfl (y_as (y_leqb (q := 57) rfl rfl rfl) (congrArg Value.bool (decide_eq_false (c1)))) ?_
      refine hl_y rfl rfl rfl (y_pick (b := true) rfl rfl rfl) ?_
      refine hl_y rfl rfl rfl (y_assign rfl rfl) ?_
      refine hl_nil ?_
      refine hq_then ?_
      refine hc_ifF rfl ?_
      refine hc_seq ?_
      rcases Decidable.em ((97 : UInt8).toNat ≤ c.toNat) with c2 | c2
      · skip
        rcases Decidable.em (c.toNat ≤ (102 : UInt8).toNat) with c3 | c3
        · skip
          refine hc_region ?_
          refine hl_y rfl rfl rfl (y_move rfl rfl) ?_
          refine hl_y rfl rfl rfl (y_as (y_geqb (q := 97) rfl rfl rfl) (congrArg Value.bool (decide_eq_true (c2)))) ?_
          refine hl_y rfl rfl rfl (y_move rfl rfl) ?_
          refine hl_yg 2 16 true rfl rfl rfl rfl rfl (y_move rfl rfl) ?_
          refine hl_yg 2 16 true rfl rfl rfl rfl rfl (y_as (y_leqb (q := 102) rfl rfl rfl) (congrArg Value.bool (decide_eq_true (c3)))) ?_
          refine hl_y rfl rfl rfl (y_pick (b := true) rfl rfl rfl) ?_
          refine hl_y rfl rfl rfl (y_assign rfl rfl) ?_
          refine hl_nil ?_
          refine hq_then ?_
          refine hc_ifT rfl ?_
          refine hc_seq ?_
          refine hc_region ?_
          refine hl_y rfl rfl rfl (y_move rfl rfl) ?_
          refine hl_y rfl rfl rfl (y_subb (q := 97) rfl rfl rfl) ?_
          refine hl_y rfl rfl rfl (y_addb (q := 10) rfl rfl rfl) ?_
          refine hl_y rfl rfl rfl (y_assign rfl rfl) ?_
          refine hl_y rfl rfl rfl (y_assign rfl rfl) ?_
          refine hl_nil ?_
          refine hq_then ?_
          refine hc_ret ?_
          exact hq_in_ret (hq_then_ret (hq_ret2 (()) rfl (rv_tmp rfl) (rv_tmp rfl) (by first | exact val_dig ⟨c0, c1⟩ | exact val_let (fun h => by omega) ⟨c2, c3⟩ | exact val_no (fun h => by omega) (fun h => by omega)) (fun _ h => Mm.pick h [] (by simp))))
        · skip
          refine hc_region ?_
          refine hl_y rfl rfl rfl (y_move rfl rfl) ?_
          refine hl_y rfl rfl rfl (y_as (y_geqb (q := 97) rfl rfl rfl) (congrArg Value.bool (decide_eq_true (c2)))) ?_
          refine hl_y rfl rfl rfl (y_move rfl rfl) ?_
          refine hl_yg 2 16 true rfl rfl rfl rfl rfl (y_move rfl rfl) ?_
          refine hl_yg 2 16 true rfl rfl rfl rfl rfl (y_as (y_leqb (q := 102) rfl rfl rfl) (congrArg Value.bool (decide_eq_false (c3)))) ?_
          refine hl_y rfl rfl rfl (y_pick (b := true) rfl rfl rfl) ?_
          refine hl_y rfl rfl rfl (y_assign rfl rfl) ?_
          refine hl_nil ?_
          refine hq_then ?_
          refine hc_ifF rfl ?_
          refine hc_skip ?_
          refine hq_in (hq_then ?_)
          refine hc_seq ?_
          refine hc_region ?_
          refine hl_y rfl rfl rfl (y_assign (v := vb 0) rfl rfl) ?_
          refine hl_y rfl rfl rfl (y_assign rfl rfl) ?_
          refine hl_nil ?_
          refine hq_then ?_
          refine hc_ret ?_
          exact hq_ret2 (()) rfl (rv_tmp rfl) (rv_tmp rfl) (by first | exact val_dig ⟨c0, c1⟩ | exact val_let (fun h => by omega) ⟨c2, c3⟩ | exact val_no (fun h => by omega) (fun h => by omega)) (fun _ h => Mm.pick h [] (by simp))
      · skip
        refine hc_region ?_
        refine hl_y rfl rfl rfl (y_move rfl rfl) ?_
        refine hl_y rfl rfl rfl (y_as (y_geqb (q := 97) rfl rfl rfl) (congrArg Value.bool (decide_eq_false (c2)))) ?_
        refine hl_y rfl rfl rfl (y_move rfl rfl) ?_
        refine hl_no 2 16 true false rfl rfl rfl rfl rfl rfl ?_
        refine hl_no 2 16 true false rfl rfl rfl rfl rfl rfl ?_
        refine hl_y rfl rfl rfl (y_pick (b := false) rfl rfl rfl) ?_
        refine hl_y rfl rfl rfl (y_assign rfl rfl) ?_
        refine hl_nil ?_
        refine hq_then ?_
        refine hc_ifF rfl ?_
        refine hc_skip ?_
        refine hq_in (hq_then ?_)
        refine hc_seq ?_
        refine hc_region ?_
        refine hl_y rfl rfl rfl (y_assign (v := vb 0) rfl rfl) ?_
        refine hl_y rfl rfl rfl (y_assign rfl rfl) ?_
        refine hl_nil ?_
        refine hq_then ?_
        refine hc_ret ?_
        exact hq_ret2 (()) rfl (rv_tmp rfl) (rv_tmp rfl) (by first | exact val_dig ⟨c0, c1⟩ | exact val_let (fun h => by omega) ⟨c2, c3⟩ | exact val_no (fun h => by omega) (fun h => by omega)) (fun _ h => Mm.pick h [] (by simp))
  · skip
    refine hc_region ?_
    refine hl_y rfl rfl rfl (y_move rfl rfl) ?_
    refine hl_y rfl rfl rfl (y_as (y_geqb (q := 48) rfl rfl rfl) (congrArg Value.bool (decide_eq_false (c0)))) ?_
    refine hl_y rfl rfl rfl (y_move rfl rfl) ?_
    refine hl_no 2 7 true false rfl rfl rfl rfl rfl rfl ?_
    refine hl_no 2 7 true false rfl rfl rfl rfl rfl rfl ?_
    refine hl_y rfl rfl rfl (y_pick (b := false) rfl rfl rfl) ?_
    refine hl_y rfl rfl rfl (y_assign rfl rfl) ?_
    refine hl_nil ?_
    refine hq_then ?_
    refine hc_ifF rfl ?_
    refine hc_seq ?_
    rcases Decidable.em ((97 : UInt8).toNat ≤ c.toNat) with c2 | c2
    · skip
      rcases Decidable.em (c.toNat ≤ (102 : UInt8).toNat) with c3 | c3
      · skip
        refine hc_region ?_
        refine hl_y rfl rfl rfl (y_move rfl rfl) ?_
        refine hl_y rfl rfl rfl (y_as (y_geqb (q := 97) rfl rfl rfl) (congrArg Value.bool (decide_eq_true (c2)))) ?_
        refine hl_y rfl rfl rfl (y_move rfl rfl) ?_
        refine hl_yg 2 16 true rfl rfl rfl rfl rfl (y_move rfl rfl) ?_
        refine hl_yg 2 16 true rfl rfl rfl rfl rfl (y_as (y_leqb (q := 102) rfl rfl rfl) (congrArg Value.bool (decide_eq_true (c3)))) ?_
        refine hl_y rfl rfl rfl (y_pick (b := true) rfl rfl rfl) ?_
        refine hl_y rfl rfl rfl (y_assign rfl rfl) ?_
        refine hl_nil ?_
        refine hq_then ?_
        refine hc_ifT rfl ?_
        refine hc_seq ?_
        refine hc_region ?_
        refine hl_y rfl rfl rfl (y_move rfl rfl) ?_
        refine hl_y rfl rfl rfl (y_subb (q := 97) rfl rfl rfl) ?_
        refine hl_y rfl rfl rfl (y_addb (q := 10) rfl rfl rfl) ?_
        refine hl_y rfl rfl rfl (y_assign rfl rfl) ?_
        refine hl_y rfl rfl rfl (y_assign rfl rfl) ?_
        refine hl_nil ?_
        refine hq_then ?_
        refine hc_ret ?_
        exact hq_in_ret (hq_then_ret (hq_ret2 (()) rfl (rv_tmp rfl) (rv_tmp rfl) (by first | exact val_dig ⟨c0, c1⟩ | exact val_let (fun h => by omega) ⟨c2, c3⟩ | exact val_no (fun h => by omega) (fun h => by omega)) (fun _ h => Mm.pick h [] (by simp))))
      · skip
        refine hc_region ?_
        refine hl_y rfl rfl rfl (y_move rfl rfl) ?_
        refine hl_y rfl rfl rfl (y_as (y_geqb (q := 97) rfl rfl rfl) (congrArg Value.bool (decide_eq_true (c2)))) ?_
        refine hl_y rfl rfl rfl (y_move rfl rfl) ?_
        refine hl_yg 2 16 true rfl rfl rfl rfl rfl (y_move rfl rfl) ?_
        refine hl_yg 2 16 true rfl rfl rfl rfl rfl (y_as (y_leqb (q := 102) rfl rfl rfl) (congrArg Value.bool (decide_eq_false (c3)))) ?_
        refine hl_y rfl rfl rfl (y_pick (b := true) rfl rfl rfl) ?_
        refine hl_y rfl rfl rfl (y_assign rfl rfl) ?_
        refine hl_nil ?_
        refine hq_then ?_
        refine hc_ifF rfl ?_
        refine hc_skip ?_
        refine hq_in (hq_then ?_)
        refine hc_seq ?_
        refine hc_region ?_
        refine hl_y rfl rfl rfl (y_assign (v := vb 0) rfl rfl) ?_
        refine hl_y rfl rfl rfl (y_assign rfl rfl) ?_
        refine hl_nil ?_
        refine hq_then ?_
        refine hc_ret ?_
        exact hq_ret2 (()) rfl (rv_tmp rfl) (rv_tmp rfl) (by first | exact val_dig ⟨c0, c1⟩ | exact val_let (fun h => by omega) ⟨c2, c3⟩ | exact val_no (fun h => by omega) (fun h => by omega)) (fun _ h => Mm.pick h [] (by simp))
    · skip
      refine hc_region ?_
      refine hl_y rfl rfl rfl (y_move rfl rfl) ?_
      refine hl_y rfl rfl rfl (y_as (y_geqb (q := 97) rfl rfl rfl) (congrArg Value.bool (decide_eq_false (c2)))) ?_
      refine hl_y rfl rfl rfl (y_move rfl rfl) ?_
      refine hl_no 2 16 true false rfl rfl rfl rfl rfl rfl ?_
      refine hl_no 2 16 true false rfl rfl rfl rfl rfl rfl ?_
      refine hl_y rfl rfl rfl (y_pick (b := false) rfl rfl rfl) ?_
      refine hl_y rfl rfl rfl (y_assign rfl rfl) ?_
      refine hl_nil ?_
      refine hq_then ?_
      refine hc_ifF rfl ?_
      refine hc_skip ?_
      refine hq_in (hq_then ?_)
      refine hc_seq ?_
      refine hc_region ?_
      refine hl_y rfl rfl rfl (y_assign (v := vb 0) rfl rfl) ?_
      refine hl_y rfl rfl rfl (y_assign rfl rfl) ?_
      refine hl_nil ?_
      refine hq_then ?_
      refine hc_ret ?_
      exact hq_ret2 (()) rfl (rv_tmp rfl) (rv_tmp rfl) (by first | exact val_dig ⟨c0, c1⟩ | exact val_let (fun h => by omega) ⟨c2, c3⟩ | exact val_no (fun h => by omega) (fun h => by omega)) (fun _ h => Mm.pick h [] (by simp))

theorem hex_Parse_ct (l : List UInt8) (w : World) (hm : l.length ≤ 35184372088832) : Ct Try.prog 31 #[vs l] w (fun y : Value × Nat => .tuple #[y.1, vi y.2, vi (parF l)]) (fun y => [.row 5 y.1 (ls vb (parA l))]) := by
  refine ct_of Try.func31 rfl Try.ntmps31 rfl ?_
  refine hc_seq ?_
  refine hc_region ?_
  refine hl_y rfl rfl rfl (y_assign rfl rfl) ?_
  refine hl_y rfl rfl rfl (y_assign (v := vi 0) rfl rfl) ?_
  refine hl_y rfl rfl rfl (y_assign (v := vi 0) rfl rfl) ?_
  refine hl_nil ?_
  refine hq_then ?_
  refine hc_seq ?_
  refine hc_region ?_
  refine hl_y rfl rfl rfl (y_assign rfl rfl) ?_
  refine hl_nil ?_
  refine hq_then ?_
  refine hc_seq ?_
  refine hc_region ?_
  refine hl_y rfl rfl rfl (y_assign (v := vb 0) rfl rfl) ?_
  refine hl_nil ?_
  refine hq_then ?_
  refine hc_seq ?_
  refine hc_seq ?_
  refine hc_region ?_
  refine hl_y rfl rfl rfl (y_move rfl rfl) ?_
  refine hl_y rfl rfl rfl (y_lent rfl rfl U9 rfl) ?_
  refine hl_y rfl rfl rfl (y_move (v := vi 0) rfl rfl) ?_
  refine hl_nil ?_
  refine hq_then ?_
  refine hc_block ?_
  refine hc_loop2 (fun k u => k ≤ l.length ∧ ∀ j, j < k → isF (l.getD j 0) = true) (fun k u => l.length - k) (fun k u => [(0, vs l), (2, u), (5, .func (.func 60) #[] #[]), (6, vb (hiF l k)), (11, vi l.length), (12, vi k)]) (fun k u => Mm w [.row 5 u (ls vb (parN l (k / 2)))]) (0) (.slice none 0 0) ⟨Nat.zero_le _, fun j hj => by omega⟩ ⟨rfl, rfl, rfl, rfl, lk_int rfl (by omega), lk_int rfl (by omega), trivial⟩ (fun _ h => (mm_nil 5 _ h).mm (by simp [parN, ls])) ?_
  intro k u hk
  obtain ⟨hk, hj⟩ := hk
  refine hc_seq ?_
  refine hc_region ?_
  refine hl_y rfl rfl rfl (y_lssn rfl rfl rfl ) ?_
  refine hl_nil ?_
  refine hq_then ?_
  refine hc_seq ?_
  refine hc_if rfl (fun c0 => ?_) (fun c0 => ?_)
  · replace c0 := of_decide_eq_true c0
    refine hc_skip ?_
    refine hq_then ?_
    refine hc_seq ?_
    refine hc_block ?_
    refine hc_seq ?_
    refine hc_region ?_
    refine hl_y rfl rfl rfl (y_move rfl rfl) ?_
    refine hl_y rfl rfl rfl (y_assign rfl rfl) ?_
    refine hl_nil ?_
    refine hq_then ?_
    refine hc_seq ?_
    refine hc_region ?_
    refine hl_y rfl rfl rfl (y_move rfl rfl) ?_
    refine hl_y rfl rfl rfl (y_move rfl rfl) ?_
    refine hl_y rfl rfl rfl (y_move rfl rfl) ?_
    refine hl_y rfl rfl rfl (y_ixt rfl U9 rfl rfl (by omega)) ?_
    refine hl_i rfl rfl rfl (e_call0 rfl F60 rfl (fun w hw => hex_value_ct _ w) rfl) ?_; intro _
    refine hl_y rfl rfl rfl (y_move rfl rfl) ?_
    refine hl_y rfl rfl rfl (y_extract rfl rfl rfl) ?_
    refine hl_y rfl rfl rfl (y_extract rfl rfl rfl) ?_
    refine hl_y rfl rfl rfl (y_assign rfl rfl) ?_
    refine hl_y rfl rfl rfl (y_assign rfl rfl) ?_
    refine hl_nil ?_
    refine hq_then ?_
    refine hc_seq ?_
    refine hc_seq ?_
    refine hc_region ?_
    refine hl_y rfl rfl rfl (y_move rfl rfl) ?_
    refine hl_y rfl rfl rfl (y_not rfl rfl) ?_
    refine hl_nil ?_
    refine hq_then ?_
    refine hc_if rfl (fun c1 => ?_) (fun c1 => ?_)
    · skip
      replace c1 : ¬ isF (l.getD k 0) = true := by simpa using c1
      refine hc_seq ?_
      refine hc_region ?_
      refine hl_y rfl rfl rfl (y_move rfl rfl) ?_
      refine hl_y rfl rfl rfl (y_assign rfl rfl) ?_
      refine hl_y rfl rfl rfl (y_assign rfl rfl) ?_
      refine hl_y rfl rfl rfl (y_assign (v := vi 3) rfl rfl) ?_
      refine hl_nil ?_
      refine hq_then ?_
      refine hc_ret ?_
      exact hq_then_ret (hq_in_ret (hq_then_ret (hq_loop_ret2 (hq_in_ret (hq_then_ret (hq_ret3 ((.slice none 0 0, k)) rfl (rv_tmp rfl) (rv_tmp rfl) (rv_tmp rfl) (by rw [parF, if_neg (fun h => c1 (h.1 k (by omega)))]) (fun _ h => (mm_nil 5 _ (Mm.pick h [] (by decide))).mm (by rw [parA, if_neg (fun h => c1 (h.1 k (by omega)))]; rfl))))))))
    · skip
      replace c1 : isF (l.getD k 0) = true := by simpa using c1
      refine hc_skip ?_
      refine hq_then ?_
      refine hc_seq ?_
      refine hc_seq ?_
      refine hc_region ?_
      refine hl_y rfl rfl rfl (y_move rfl rfl) ?_
      refine hl_y rfl rfl rfl (y_remn (q := 2) rfl rfl rfl (by omega)) ?_
      refine hl_y rfl rfl rfl (y_eqln (q := 0) rfl rfl rfl ) ?_
      refine hl_nil ?_
      refine hq_then ?_
      refine hc_if rfl (fun c2 => ?_) (fun c2 => ?_)
      · replace c2 := of_decide_eq_true c2
        refine hc_seq ?_
        refine hc_region ?_
        refine hl_y rfl rfl rfl (y_move rfl rfl) ?_
        refine hl_y rfl rfl rfl (y_assign rfl rfl) ?_
        refine hl_nil ?_
        refine hq_then ?_
        refine hc_exit ?_
        refine hq_then_exit (hq_in_same (hq_then ?_))
        refine hc_region ?_
        refine hl_y rfl rfl rfl (y_addn (q := 1) rfl rfl rfl (by omega)) ?_
        refine hl_y rfl rfl rfl (y_move rfl rfl) ?_
        refine hl_nil ?_
        exact hq_round2 (k + 1) (u) (by omega) ⟨by omega, fun j hj2 => by rcases Nat.lt_or_ge j k with h | h; exact hj j h; exact (show j = k from by omega) ▸ c1⟩ ⟨rfl, rfl, rfl, lk_eq rfl (congrArg vb (by first | exact hi_even (by omega) | exact hi_odd (by omega))), lk_int rfl (by omega), lk_int rfl (by omega), trivial⟩ (fun _ h => h.mm (by rw [show (k + 1) / 2 = k / 2 from by omega]))
      · replace c2 := of_decide_eq_false c2
        refine hc_skip ?_
        refine hq_then ?_
        refine hc_region ?_
        refine hl_y rfl rfl rfl (y_move rfl rfl) ?_
        refine hl_y rfl rfl rfl (y_move rfl rfl) ?_
        refine hl_y rfl rfl rfl (y_shlb (m := 4) rfl rfl rfl rfl (by omega)) ?_
        refine hl_y rfl rfl rfl (y_move rfl rfl) ?_
        refine hl_y rfl rfl rfl (y_orb rfl rfl rfl) ?_
        refine hl_i rfl rfl rfl (e_lit1 rfl S22 Z1_5 rfl rfl rfl) ?_; intro g35
        refine hl_i rfl rfl rfl (e_appb 1 rfl A22_5 rfl rfl rfl (rdB 0 rfl rfl rfl (by omega)) (show _ = ls vb [hiF l k <<< UInt8.ofNat 4 ||| valF (l.getD k 0)] from rfl) (by rw [parN_len]; simp; omega)) ?_; intro y36
        refine hl_y rfl rfl rfl (y_assign rfl rfl) ?_
        refine hl_nil ?_
        refine hq_in (hq_then ?_)
        refine hc_region ?_
        refine hl_y rfl rfl rfl (y_addn (q := 1) rfl rfl rfl (by omega)) ?_
        refine hl_y rfl rfl rfl (y_move rfl rfl) ?_
        refine hl_nil ?_
        exact hq_round2 (k + 1) (y36) (by omega) ⟨by omega, fun j hj2 => by rcases Nat.lt_or_ge j k with h | h; exact hj j h; exact (show j = k from by omega) ▸ c1⟩ ⟨rfl, rfl, rfl, lk_eq rfl (congrArg vb (by first | exact hi_even (by omega) | exact hi_odd (by omega))), lk_int rfl (by omega), lk_int rfl (by omega), trivial⟩ (fun _ h => (Mm.pick h [1] (by decide)).setr 0 rfl (par_step (by omega)))
  · replace c0 := of_decide_eq_false c0
    refine hc_exit ?_
    refine hq_then_exit (hq_loop_exit2 (hq_in_same (hq_then ?_)))
    refine hc_seq ?_
    refine hc_seq ?_
    refine hc_region ?_
    refine hl_y rfl rfl rfl (y_move rfl rfl) ?_
    refine hl_y rfl rfl rfl (y_lent rfl rfl U9 rfl) ?_
    refine hl_y rfl rfl rfl (y_remn (q := 2) rfl rfl rfl (by omega)) ?_
    refine hl_y rfl rfl rfl (y_neqn (q := 0) rfl rfl rfl ) ?_
    refine hl_nil ?_
    refine hq_then ?_
    refine hc_if rfl (fun c3 => ?_) (fun c3 => ?_)
    · replace c3 := of_decide_eq_true c3
      refine hc_seq ?_
      refine hc_region ?_
      refine hl_y rfl rfl rfl (y_move rfl rfl) ?_
      refine hl_y rfl rfl rfl (y_lent rfl rfl U9 rfl) ?_
      refine hl_y rfl rfl rfl (y_assign rfl rfl) ?_
      refine hl_y rfl rfl rfl (y_assign rfl rfl) ?_
      refine hl_y rfl rfl rfl (y_assign (v := vi 3) rfl rfl) ?_
      refine hl_nil ?_
      refine hq_then ?_
      refine hc_ret ?_
      exact hq_then_ret (hq_ret3 ((.slice none 0 0, l.length)) rfl (rv_tmp rfl) (rv_tmp rfl) (rv_tmp rfl) (by rw [parF, if_neg (fun h => by have := h.2; omega)]) (fun _ h => (mm_nil 5 _ (Mm.pick h [] (by decide))).mm (by rw [parA, if_neg (fun h => by have := h.2; omega)]; rfl)))
    · replace c3 := of_decide_eq_false c3
      refine hc_skip ?_
      refine hq_then ?_
      refine hc_seq ?_
      refine hc_region ?_
      refine hl_y rfl rfl rfl (y_move rfl rfl) ?_
      refine hl_y rfl rfl rfl (y_assign rfl rfl) ?_
      refine hl_y rfl rfl rfl (y_assign (v := vi 0) rfl rfl) ?_
      refine hl_y rfl rfl rfl (y_assign (v := vi 0) rfl rfl) ?_
      refine hl_nil ?_
      refine hq_then ?_
      refine hc_ret ?_
      exact hq_ret3 ((u, 0)) rfl (rv_tmp rfl) (rv_tmp rfl) (rv_tmp rfl) (by rw [parF, if_pos ⟨fun j h => hj j (by omega), by omega⟩]) (fun _ h => h.mm (by rw [parA, if_pos ⟨fun j h => hj j (by omega), by omega⟩, show k = l.length from by omega]))

end Go.Proofs.Ytcdidapkpfnphaa
