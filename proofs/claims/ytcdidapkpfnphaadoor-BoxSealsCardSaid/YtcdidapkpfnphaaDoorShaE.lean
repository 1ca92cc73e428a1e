/- Sums: what each call gives back. -/
import Derived.Test.YtcdidapkpfnphaaDoorShaD
namespace Go.Proofs.YtcdidapkpfnphaaDoor
open Go.RowKit
set_option linter.unusedVariables false
set_option linter.unusedSimpArgs false
set_option maxRecDepth 100000
theorem sha_Sum_ct (l : List UInt8) (v : Value)  (w : World) (hv : Rd w v (ls vb l)) (hm : l.length ≤ 1000000) (hkl : KL w) : Ct Tryd.prog 28 #[v] w (fun v : Value => v) (fun v => [.row 5 v (ls vb (shaL l))]) := by
  have hal := allL_le l
  have hpg := padG_le l.length
  refine ctD_of Tryd.func28 rfl Tryd.ntmps28 rfl ?_
  refine hc_seq ?_
  refine hc_region ?_
  refine hl_y rfl rfl rfl (y_assign rfl rfl) ?_
  refine hl_nil ?_
  refine hq_then ?_
  refine hc_seq ?_
  refine hc_region ?_
  refine hl_i rfl rfl rfl (e_call0 rfl F33 rfl (fun w hw => sha_First_ct w) rfl) ?_; intro _
  refine hl_i rfl rfl rfl (e_alloc rfl Z29) ?_; intro g3
  refine hl_i0 rfl rfl (e_stw 0 rfl T29.2 rfl rfl rfl (ns_onew _ _)) ?_; intro _
  refine hl_nil ?_
  refine hq_then ?_
  refine hc_seq ?_
  refine hc_seq ?_
  refine hc_region ?_
  refine hl_y rfl rfl rfl (y_move rfl rfl) ?_
  refine hl_y rfl rfl rfl (y_move rfl rfl) ?_
  refine hl_y rfl rfl rfl (y_lenE (l.length) rfl rfl S22 rfl (rdF hv) (by first | rfl | simp only [ls_len, ns_len] | (simp only [ls_len, ns_len]; omega))) ?_
  refine hl_i rfl rfl rfl (e_call rfl F21 rfl (fun w hw => sha_Pad_ct l.length (by omega) w) rfl) ?_; intro y11
  refine HL.pre (RdM.one (rdF hv)) ?_; intro o12_0
  refine HL.pre (RdM.one (rdR 0 rfl)) ?_; intro o12_1
  refine hl_i rfl rfl rfl (e_lit2 rfl S75 Z1_22 rfl rfl rfl o12_0 o12_1) ?_; intro g12
  refine hl_i rfl rfl rfl (e_call rfl F69 rfl (fun w hw => concat_ct ([(_, l), (_, (padG l.length))]) _ w ((rdB 0 rfl rfl rfl (by omega)) w hw) (List.forall_mem_cons.2 ⟨(rdF hv : RdM _ _ (ls vb l)) w hw, (List.forall_mem_cons.2 ⟨(rdR 1 rfl : RdM _ _ (ls vb (padG l.length))) w hw, (fun _ h => absurd h (by simp))⟩)⟩) (by simp only [catL, List.map_cons, List.map_nil, List.flatten_cons, List.flatten_nil, List.length_append, List.length_take, List.length_drop, List.length_replicate, List.length_cons, List.length_nil, putL_len, shaL_len]; omega) (by simp)) rfl) ?_; intro y13
  refine HL.mem (fun _ h => h.setr 0 rfl (show _ = ls vb (allL l) by rw [allL, ← padG_of (by omega)]; simp [catL])) ?_
  refine HL.pre (fun w h => ((rdR 0 rfl) w h).shapeb) ?_
  rintro ⟨A, cap, rfl, hcap⟩
  refine hl_i rfl rfl rfl (e_call rfl F68 rfl (fun w hw => chunk_ct _ _ _ 64 (by omega) w) rfl) ?_; intro y14
  refine hl_nil ?_
  refine hq_then ?_
  refine hc_block ?_
  refine hc_range (fun k : Fin (chunks (allL l).length 64) => slc3 (.slice A (allL l).length cap) (k.val * 64) (k.val * 64 + min 64 ((allL l).length - k.val * 64)) (k.val * 64 + min 64 ((allL l).length - k.val * 64))) (fun pre (_ : Unit) => [.blk g3 29 (ns vw 8 (pre.foldl (fun hf (j : Fin (chunks (allL l).length 64)) => cmpS hf (chunk (allL l) 64 j.val)) firstF)), .row 5 (.slice A (allL l).length cap) (ls vb (allL l)), .blk y14.2 3 [vi 64], .blk y14.1 22 [.slice A (allL l).length cap]]) (()) (fun x => [(3, .pointer (some ⟨g3, 0, none⟩)), (4, slc3 (.slice A (allL l).length cap) (x.val * 64) (x.val * 64 + min 64 ((allL l).length - x.val * 64)) (x.val * 64 + min 64 ((allL l).length - x.val * 64)))]) rfl F85 rfl (fun _ h => Mm.pick h [5, 2, 0, 1] (by decide)) (chunk_itr A (allL l).length cap 64 (by omega) (by omega) hcap (by omega) y14.1 y14.2 w _ _ 3 2 (fun _ _ => rfl) (fun _ _ => rfl)) ?_ ?_ ?_
  · intro r x M
    refine hw_region aq_no rfl ?_
    refine hl_y rfl rfl rfl (y_assign rfl rfl) ?_
    refine hl_nil ?_
    exact hq_aq ⟨rfl, rfl, trivial⟩
  · intro r X Y pre x y hlen
    refine hw_block ?_
    refine hw_region (rq_block rq_no) rfl ?_
    refine hl_y rfl rfl rfl (y_ldw 2 rfl T29 rfl rfl) ?_
    refine hl_y rfl rfl rfl (y_move rfl rfl) ?_
    refine hl_i rfl rfl rfl (e_call0 rfl F25 rfl (fun w hw => sha_Block_ct _ _ _ w (((rd_chunk (by omega) (rdR 3 rfl) x.isLt)) w hw) (hkl.below (Mm.out hw).low)) rfl) ?_; intro _
    refine hl_i0 rfl rfl (e_stw 2 rfl T29.2 rfl rfl rfl (ns_onew _ _)) ?_; intro _
    refine hl_nil ?_
    exact hq_in (hq_rq (fun w h => ⟨(), h.set 2 rfl (by rw [List.foldl_append, blockF, if_pos (chunk_len (allL_whole l) (chunks_at (by omega) x.isLt))]; rfl)⟩))
  · intro D y
    refine HQ.mem (fun _ h => h.set 1 rfl (by rw [sum_fold])) ?_
    refine hq_in (hq_then ?_)
    refine hc_seq ?_
    refine hc_seq ?_
    refine hc_region ?_
    refine hl_y rfl rfl rfl (y_ldw 1 rfl T29 rfl rfl) ?_
    refine hl_y rfl rfl rfl (y_move (v := vi 0) rfl rfl) ?_
    refine hl_nil ?_
    refine hq_then ?_
    refine hc_block ?_
    refine hc_loop2 (fun k u => k ≤ 8) (fun k u => 8 - k) (fun k u => [(2, u), (19, .agg (ns vw 8 (sumS (allL l) ((allL l).length / 64))).toArray), (20, vi k)]) (fun k u => Mm w [.obj D (.deferred (some [])), .row 5 u (ls vb (outL (sumS (allL l) ((allL l).length / 64)) k))]) (0) (.slice none 0 0) (by omega) ⟨rfl, rfl, lk_int rfl (by omega), trivial⟩ (fun _ h => Mm.pick (mm_nilb 5 _ h) [1, 0] (by decide)) ?_
    intro k u hk
    refine hc_seq ?_
    refine hc_region ?_
    refine hl_y rfl rfl rfl (y_lssn (q := 8) rfl rfl rfl ) ?_
    refine hl_nil ?_
    refine hq_then ?_
    refine hc_seq ?_
    refine hc_if rfl (fun c0 => ?_) (fun c0 => ?_)
    · replace c0 := of_decide_eq_true c0
      refine hc_skip ?_
      refine hq_then ?_
      refine hc_seq ?_
      refine hc_block ?_
      refine hc_seq ?_
      refine hc_region ?_
      refine hl_y rfl rfl rfl (y_ixn rfl T29 O28 rfl rfl (by omega) (by omega)) ?_
      refine hl_y rfl rfl rfl (y_assign rfl rfl) ?_
      refine hl_nil ?_
      refine hq_then ?_
      refine hc_region ?_
      refine hl_y rfl rfl rfl (y_move rfl rfl) ?_
      refine hl_y rfl rfl rfl (y_move rfl rfl) ?_
      refine hl_y rfl rfl rfl (y_conv rfl U28 U45 rfl (conv_wq _)) ?_
      refine hl_i rfl rfl rfl (e_call rfl F61 rfl (fun w hw => num_Put_ct _ 4 (by omega) (by omega) w) rfl) ?_; intro y26
      refine hl_i rfl rfl rfl (e_appb 2 rfl A22_5 rfl rfl rfl (rdR 0 rfl) rfl (by rw [outL_len, putL_len]; omega)) ?_; intro y27
      refine hl_y rfl rfl rfl (y_assign rfl rfl) ?_
      refine hl_nil ?_
      refine hq_in (hq_then ?_)
      refine hc_region ?_
      refine hl_y rfl rfl rfl (y_addn (q := 1) rfl rfl rfl (by omega)) ?_
      refine hl_y rfl rfl rfl (y_move rfl rfl) ?_
      refine hl_nil ?_
      exact hq_round2 (k + 1) (y27) (by omega) (by omega) ⟨rfl, rfl, lk_int rfl (by omega), trivial⟩ (fun _ h => (Mm.pick h [1, 2] (by decide)).setr 1 rfl (by rw [outL_next]))
    · replace c0 := of_decide_eq_false c0
      refine hc_exit ?_
      refine hq_then_exit (hq_loop_exit2 (hq_in_same (hq_then ?_)))
      refine hc_seq ?_
      refine hc_region ?_
      refine hl_y rfl rfl rfl (y_move rfl rfl) ?_
      refine hl_y rfl rfl rfl (y_assign rfl rfl) ?_
      refine hl_nil ?_
      refine hq_then ?_
      refine hc_ret ?_
      exact hq_retM1 (u) rfl (rv_tmp rfl) rfl (fun _ h => h.mm (by rw [show k = 8 from by omega]; rfl))

theorem r07_Sum_ct (l : List UInt8) (v : Value)  (w : World) (hv : Rd w v (ls vb l)) (hm : l.length ≤ 1000000) : Ct Tryd.prog 29 #[v] w (fun v : Value => v) (fun v => [.row 5 v (ls vb (shaL l))]) := by
  have hal := allL_le l
  have hpg := padG_le l.length
  have haw := allL_whole l
  refine ct_of Tryd.func29 rfl Tryd.ntmps29 rfl ?_
  refine hc_seq ?_
  refine hc_region ?_
  refine hl_y rfl rfl rfl (y_assign rfl rfl) ?_
  refine hl_nil ?_
  refine hq_then ?_
  refine hc_seq ?_
  refine hc_region ?_
  refine hl_i rfl rfl rfl (e_call0 rfl F27 rfl (fun w hw => r07_Table_ct w) rfl) ?_; intro _
  refine hl_i rfl rfl rfl (e_alloc rfl Z31) ?_; intro g3
  refine hl_i0 rfl rfl (e_stw 0 rfl T31.2 rfl rfl rfl (ns_onew _ _)) ?_; intro _
  refine hl_nil ?_
  refine hq_then ?_
  refine hc_seq ?_
  refine hc_region ?_
  refine hl_y rfl rfl rfl (y_bun firstF vw_1 rfl T29 O28 0 Z29 (by kernel_rfl)) ?_
  refine hl_i rfl rfl rfl (e_alloc rfl Z29) ?_; intro g4
  refine hl_i0 rfl rfl (e_stw 0 rfl T29.2 rfl rfl rfl (ns_onew _ _)) ?_; intro _
  refine hl_nil ?_
  refine hq_then ?_
  refine hc_seq ?_
  refine hc_region ?_
  refine hl_y rfl rfl rfl (y_move rfl rfl) ?_
  refine hl_y rfl rfl rfl (y_move rfl rfl) ?_
  refine hl_y rfl rfl rfl (y_lenE (l.length) rfl rfl S22 rfl (rdF hv) (by first | rfl | simp only [ls_len, ns_len] | (simp only [ls_len, ns_len]; omega))) ?_
  refine hl_i rfl rfl rfl (e_call rfl F22 rfl (fun w hw => r07_Pad_ct l.length (by omega) w) rfl) ?_; intro y14
  refine hl_i rfl rfl rfl (e_call rfl F32 rfl (fun w hw => r01_Join_ct l (padG l.length) _ _ w ((rdF hv) w hw) ((rdR 0 rfl) w hw) (by first | omega | (simp only [List.length_append, List.length_take, List.length_drop, List.length_replicate, List.length_cons, List.length_nil, putL_len, shaL_len]; omega))) rfl) ?_; intro y15
  refine HL.mem (fun _ h => h.setr 0 rfl (show _ = ls vb (allL l) by rw [allL, ← padG_of (by omega)])) ?_
  refine hl_y rfl rfl rfl (y_assign rfl rfl) ?_
  refine hl_nil ?_
  refine hq_then ?_
  refine hc_seq ?_
  refine hc_seq ?_
  refine hc_region ?_
  refine hl_y rfl rfl rfl (y_assign (v := vi 0) rfl rfl) ?_
  refine hl_nil ?_
  refine hq_then ?_
  refine hc_block ?_
  refine hc_loop (fun k => k ≤ (allL l).length / 64) (fun k => (allL l).length / 64 - k) (fun k => [(3, .pointer (some ⟨g3, 0, none⟩)), (4, .pointer (some ⟨g4, 0, none⟩)), (5, y15), (6, vi (k * 64))]) (fun k => Mm w [.row 5 y15 (ls vb (allL l)), .blk g4 29 (ns vw 8 (sumS (allL l) k)), .blk g3 31 (ns vw 64 kT)]) (0) (by omega) ⟨rfl, rfl, rfl, lk_int rfl (by simp), trivial⟩ (fun _ h => Mm.pick h [0, 2, 3] (by decide)) ?_
  intro k hk
  refine hc_seq ?_
  refine hc_seq ?_
  refine hc_region ?_
  refine hl_y rfl rfl rfl (y_move rfl rfl) ?_
  refine hl_y rfl rfl rfl (y_addn (q := 64) rfl rfl rfl (by omega)) ?_
  refine hl_y rfl rfl rfl (y_move rfl rfl) ?_
  refine hl_y rfl rfl rfl (y_lenE ((allL l).length) rfl rfl S22 rfl (rdR 0 rfl) (by first | rfl | simp only [ls_len, ns_len] | (simp only [ls_len, ns_len]; omega))) ?_
  refine hl_y rfl rfl rfl (y_leqn rfl rfl rfl ) ?_
  refine hl_nil ?_
  refine hq_then ?_
  refine hc_if rfl (fun c0 => ?_) (fun c0 => ?_)
  · replace c0 := of_decide_eq_true c0
    refine hc_skip ?_
    refine hq_then ?_
    refine hc_seq ?_
    refine hc_block ?_
    refine hc_drawP [2, 0] follows_mixed ?_
    refine hh_y 0 rfl rfl rfl rfl (by kernel_rfl) (by kernel_rfl) (by kernel_rfl) (fun _ h => Mm.pick h [2, 0] (by decide)) (y_ldw 0 rfl T31 rfl rfl) ?_
    refine hh_y 2 rfl rfl rfl rfl (by kernel_rfl) (by kernel_rfl) (by kernel_rfl) (fun _ h => Mm.pick h [2, 0] (by decide)) (y_move rfl rfl) ?_
    refine hh_y 3 rfl rfl rfl rfl (by kernel_rfl) (by kernel_rfl) (by kernel_rfl) (fun _ h => Mm.pick h [2, 0] (by decide)) (y_move rfl rfl) ?_
    refine hh_y 4 rfl rfl rfl rfl (by kernel_rfl) (by kernel_rfl) (by kernel_rfl) (fun _ h => Mm.pick h [2, 0] (by decide)) (y_move rfl rfl) ?_
    refine hh_y 5 rfl rfl rfl rfl (by kernel_rfl) (by kernel_rfl) (by kernel_rfl) (fun _ h => Mm.pick h [2, 0] (by decide)) (y_addn (q := 64) rfl rfl rfl (by omega)) ?_
    refine hh_y 6 rfl rfl rfl rfl (by kernel_rfl) (by kernel_rfl) (by kernel_rfl) (fun _ h => Mm.pick h [2, 0] (by decide)) (y_slc2 rfl S22 rfl (rdR 1 rfl) rfl rfl (by omega) (by first | omega | (simp only [ls_len, ns_len]; omega) | (simp only [List.length_take, List.length_drop, ls_len, ns_len]; omega))) ?_
    refine hh_i 1 rfl rfl rfl rfl (by kernel_rfl) (ef_y (y_ldw 1 rfl T29 rfl rfl)) (fun _ _ h => Mm.pick h [2, 0] (by decide)) ?_; intro _
    refine hh_i 7 rfl rfl rfl rfl (by kernel_rfl) (e_call0 rfl F26 rfl (fun w hw => r07_With_ct _ _ _ w (((rdQ2 (rdR 0 rfl) (lo := (k * 64)) (hi := ((k * 64) + 64)) (n := 64) (by omega) (by omega))) w hw)) rfl) (fun _ _ h => Mm.pick h [2, 0] (by decide)) ?_; intro _
    refine hh_i0 8 rfl rfl rfl (by kernel_rfl) (e_stw 1 rfl T29.2 rfl rfl rfl (ns_onew _ _)) (fun _ _ h => Mm.pick_set h [2, 0] (by decide) (by decide)) ?_; intro _
    refine hh_done (by kernel_rfl) ?_
    refine hq_in (hq_then ?_)
    refine hc_region ?_
    refine hl_y rfl rfl rfl (y_move rfl rfl) ?_
    refine hl_y rfl rfl rfl (y_addn (q := 64) rfl rfl rfl (by omega)) ?_
    refine hl_y rfl rfl rfl (y_assign rfl rfl) ?_
    refine hl_nil ?_
    exact hq_round (k + 1) (by omega) (by omega) ⟨rfl, rfl, rfl, lk_int rfl (by rw [Nat.add_one_mul]), trivial⟩ (fun _ h => h.set 1 rfl (by rw [sumS_next, blockF, if_pos (by rw [List.length_take, List.length_drop]; omega)]; rfl))
  · replace c0 := of_decide_eq_false c0
    refine hc_exit ?_
    refine hq_then_exit (hq_loop_exit (hq_in_same (hq_then ?_)))
    refine hc_seq ?_
    refine hc_region ?_
    refine hl_y rfl rfl rfl (y_assign rfl rfl) ?_
    refine hl_nil ?_
    refine hq_then ?_
    refine hc_seq ?_
    refine hc_seq ?_
    refine hc_region ?_
    refine hl_y rfl rfl rfl (y_assign (v := vi 0) rfl rfl) ?_
    refine hl_nil ?_
    refine hq_then ?_
    refine hc_block ?_
    refine hc_loop2 (fun k u => k ≤ 8) (fun k u => 8 - k) (fun k u => [(4, .pointer (some ⟨g4, 0, none⟩)), (7, u), (8, vi k)]) (fun k u => Mm w [.row 5 u (ls vb (outL (sumS (allL l) ((allL l).length / 64)) k)), .blk g4 29 (ns vw 8 (sumS (allL l) ((allL l).length / 64)))]) (0) (.slice none 0 0) (by omega) ⟨rfl, rfl, lk_int rfl (by omega), trivial⟩ (fun _ h => (mm_nilb 5 _ (Mm.pick h [1] (by decide))).set 1 rfl (by rw [show k = (allL l).length / 64 from by omega])) ?_
    intro k u hk
    refine hc_seq ?_
    refine hc_seq ?_
    refine hc_region ?_
    refine hl_y rfl rfl rfl (y_move rfl rfl) ?_
    refine hl_y rfl rfl rfl (y_lssn (q := 8) rfl rfl rfl ) ?_
    refine hl_nil ?_
    refine hq_then ?_
    refine hc_if rfl (fun c1 => ?_) (fun c1 => ?_)
    · replace c1 := of_decide_eq_true c1
      refine hc_skip ?_
      refine hq_then ?_
      refine hc_seq ?_
      refine hc_block ?_
      refine hc_region ?_
      refine hl_y rfl rfl rfl (y_move rfl rfl) ?_
      refine hl_y rfl rfl rfl (y_move rfl rfl) ?_
      refine hl_y rfl rfl rfl (y_ixa1 rfl T29 O28 rfl rfl (by omega)) ?_
      refine hl_y rfl rfl rfl (y_ldn 1 rfl O28 rfl rfl (by omega)) ?_
      refine hl_y rfl rfl rfl (y_conv rfl U28 U45 rfl (conv_wq _)) ?_
      refine hl_i rfl rfl rfl (e_call rfl F34 rfl (fun w hw => r01_Put_ct _ 4 (by omega) (by omega) w) rfl) ?_; intro y40
      refine hl_i rfl rfl rfl (e_appb 1 rfl A22_5 rfl rfl rfl (rdR 0 rfl) rfl (by rw [outL_len, putL_len]; omega)) ?_; intro y41
      refine hl_y rfl rfl rfl (y_assign rfl rfl) ?_
      refine hl_nil ?_
      refine hq_in (hq_then ?_)
      refine hc_region ?_
      refine hl_y rfl rfl rfl (y_move rfl rfl) ?_
      refine hl_y rfl rfl rfl (y_addn (q := 1) rfl rfl rfl (by omega)) ?_
      refine hl_y rfl rfl rfl (y_assign rfl rfl) ?_
      refine hl_nil ?_
      exact hq_round2 (k + 1) (y41) (by omega) (by omega) ⟨rfl, rfl, lk_int rfl (by omega), trivial⟩ (fun _ h => (Mm.pick h [1, 2] (by decide)).setr 0 rfl (by rw [outL_next]))
    · replace c1 := of_decide_eq_false c1
      refine hc_exit ?_
      refine hq_then_exit (hq_loop_exit2 (hq_in_same (hq_then ?_)))
      refine hc_seq ?_
      refine hc_region ?_
      refine hl_y rfl rfl rfl (y_move rfl rfl) ?_
      refine hl_y rfl rfl rfl (y_assign rfl rfl) ?_
      refine hl_nil ?_
      refine hq_then ?_
      refine hc_ret ?_
      exact hq_ret1 (u) rfl (rv_tmp rfl) rfl (fun _ h => (Mm.pick h [0] (by decide)).mm (by rw [show k = 8 from by omega]; rfl))

end Go.Proofs.YtcdidapkpfnphaaDoor
