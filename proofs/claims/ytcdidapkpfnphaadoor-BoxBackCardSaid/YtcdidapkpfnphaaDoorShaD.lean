/- Parts joined, pieces handed out one by one: what each call gives back. -/
import Derived.Test.YtcdidapkpfnphaaDoorShaC
import Derived.Test.YtcdidapkpfnphaaDoorLibJ
namespace Go.Proofs.YtcdidapkpfnphaaDoor
open Go.RowKit
set_option linter.unusedVariables false
set_option linter.unusedSimpArgs false
set_option maxRecDepth 100000
theorem grow_ct (n : Nat) (hn : n ≤ 1000000000000) (w : World) : Ct Tryd.prog 86 #[.slice none 0 0, vi n] w (fun v : Value => v) (fun v => [.row 5 v (ls vb [])]) := by
  refine ct_of Tryd.func86 rfl Tryd.ntmps86 rfl ?_
  refine hc_seq ?_
  refine hc_region ?_
  refine hl_y rfl rfl rfl (y_assign rfl rfl) ?_
  refine hl_nil ?_
  refine hq_then ?_
  refine hc_seq ?_
  refine hc_seq ?_
  refine hc_region ?_
  refine hl_y rfl rfl rfl (y_move rfl rfl) ?_
  refine hl_y rfl rfl rfl (y_as (y_lssn (q := 0) rfl rfl rfl ) (congrArg Value.bool (decide_eq_false (by omega)))) ?_
  refine hl_nil ?_
  refine hq_then ?_
  refine hc_ifF rfl ?_
  refine hc_skip ?_
  refine hq_then ?_
  refine hc_seq ?_
  refine hc_seq ?_
  refine hc_region ?_
  refine hl_y rfl rfl rfl (y_move rfl rfl) ?_
  refine hl_y rfl rfl rfl (y_move rfl rfl) ?_
  refine hl_y rfl rfl rfl (y_cap rfl rfl S22.1 rfl) ?_
  refine hl_y rfl rfl rfl (y_move rfl rfl) ?_
  refine hl_y rfl rfl rfl (y_lenE 0 rfl rfl S22 rfl rd_nil rfl) ?_
  refine hl_y rfl rfl rfl (y_subn rfl rfl rfl (by omega) (by omega)) ?_
  refine hl_y rfl rfl rfl (y_subn rfl rfl rfl (by omega) (by omega)) ?_
  refine hl_y rfl rfl rfl (y_assign rfl rfl) ?_
  refine hl_nil ?_
  refine hq_then ?_
  refine hc_seq ?_
  refine hc_region ?_
  refine hl_y rfl rfl rfl (y_move rfl rfl) ?_
  refine hl_y rfl rfl rfl (y_gtrn (q := 0) rfl rfl rfl ) ?_
  refine hl_nil ?_
  refine hq_then ?_
  refine hc_if rfl (fun c1 => ?_) (fun c1 => ?_)
  · replace c1 := of_decide_eq_true c1
    refine hc_region ?_
    refine hl_y rfl rfl rfl (y_move rfl rfl) ?_
    refine hl_y rfl rfl rfl (y_move rfl rfl) ?_
    refine hl_y rfl rfl rfl (y_cap rfl rfl S22.1 rfl) ?_
    refine hl_y rfl rfl rfl (y_as (y_slc0 (hi := 0) rfl S22 rfl rd_nil rfl (Nat.le_refl _)) rfl) ?_
    refine hl_y rfl rfl rfl (y_move rfl rfl) ?_
    refine hl_i rfl rfl rfl (e_grow rfl A22_5 U3 rfl rfl (by omega) (by omega)) ?_; intro y22
    refine hl_y rfl rfl rfl (y_move rfl rfl) ?_
    refine hl_y rfl rfl rfl (y_lenE 0 rfl rfl S22 rfl rd_nil rfl) ?_
    refine hl_y rfl rfl rfl (y_slcB rfl S22 rfl rfl (Nat.zero_le _) (by have := y22.2; omega)) ?_
    refine hl_y rfl rfl rfl (y_assign rfl rfl) ?_
    refine hl_nil ?_
    refine hq_then ?_
    refine hc_seq ?_
    refine hc_region ?_
    refine hl_y rfl rfl rfl (y_move rfl rfl) ?_
    refine hl_y rfl rfl rfl (y_assign rfl rfl) ?_
    refine hl_nil ?_
    refine hq_then ?_
    refine hc_ret ?_
    exact hq_ret1 (.slice (some ⟨y22.1.1, 0, none⟩) 0 y22.1.2) rfl (rv_tmp rfl) rfl (mm_mk 0 rfl y22.2.2)
  · replace c1 := of_decide_eq_false c1
    refine hc_skip ?_
    refine hq_then ?_
    refine hc_seq ?_
    refine hc_region ?_
    refine hl_y rfl rfl rfl (y_move rfl rfl) ?_
    refine hl_y rfl rfl rfl (y_assign rfl rfl) ?_
    refine hl_nil ?_
    refine hq_then ?_
    refine hc_ret ?_
    exact hq_ret1 (.slice none 0 0) rfl (rv_tmp rfl) rfl (mm_nilb 5)

theorem concat_ct (ps : List Pt) (pv : Value) (w : World) (hp : Rd w pv (ls Prod.fst ps)) (hq : ∀ p ∈ ps, Rd w p.1 (ls vb p.2)) (hm : (catL ps).length ≤ 1000000000) (hl : ps.length ≤ 1000) : Ct Tryd.prog 69 #[pv] w (fun v : Value => v) (fun v => [.row 5 v (ls vb (catL ps))]) := by
  refine ct_of Tryd.func69 rfl Tryd.ntmps69 rfl ?_
  refine hc_seq ?_
  refine hc_region ?_
  refine hl_y rfl rfl rfl (y_assign rfl rfl) ?_
  refine hl_nil ?_
  refine hq_then ?_
  refine hc_seq ?_
  refine hc_region ?_
  refine hl_y rfl rfl rfl (y_assign (v := vi 0) rfl rfl) ?_
  refine hl_nil ?_
  refine hq_then ?_
  refine hc_seq ?_
  refine hc_seq ?_
  refine hc_region ?_
  refine hl_y rfl rfl rfl (y_move rfl rfl) ?_
  refine hl_y rfl rfl rfl (y_lenE (ps.length) rfl rfl S75 rfl (rdF hp) (by first | rfl | simp only [ls_len, ns_len] | (simp only [ls_len, ns_len]; omega))) ?_
  refine hl_y rfl rfl rfl (y_move (v := vi 0) rfl rfl) ?_
  refine hl_nil ?_
  refine hq_then ?_
  refine hc_block ?_
  refine hc_loop (fun k => k ≤ ps.length) (fun k => ps.length - k) (fun k => [(0, pv), (2, .slice none 0 0), (3, vi (catN ps k).length), (9, pv), (10, vi ps.length), (11, vi k)]) (fun k => Mm w []) (0) (by omega) ⟨rfl, rfl, rfl, rfl, lk_int rfl (by omega), lk_int rfl (by omega), trivial⟩ (fun _ h => h) ?_
  intro k hk
  refine hc_seq ?_
  refine hc_region ?_
  refine hl_y rfl rfl rfl (y_lssn rfl rfl rfl ) ?_
  refine hl_nil ?_
  refine hq_then ?_
  refine hc_seq ?_
  refine hc_if rfl (fun c0 => ?_) (fun c0 => ?_)
  · replace c0 := of_decide_eq_true c0
    refine hc_skip ?_
    refine hq_then ?_
    refine hc_seq ?_
    refine hc_block ?_
    refine hc_seq ?_
    refine hc_region ?_
    refine hl_y rfl rfl rfl (y_ixs rfl S75 rfl (rdF hp) rfl (by first | omega | (simp only [ls_len, ns_len]; omega) | (simp only [List.length_take, List.length_drop, ls_len, ns_len]; omega))) ?_
    refine hl_y rfl rfl rfl (y_ldr rfl O22 rfl (rdF hp) (pt_nth (by omega))) ?_
    refine hl_y rfl rfl rfl (y_assign rfl rfl) ?_
    refine hl_nil ?_
    refine hq_then ?_
    refine hc_seq ?_
    refine hc_region ?_
    refine hl_y rfl rfl rfl (y_move rfl rfl) ?_
    refine hl_y rfl rfl rfl (y_move rfl rfl) ?_
    refine hl_y rfl rfl rfl (y_lenE ((ps.getD k pz).2.length) rfl rfl S22 rfl (rdF (hq _ (pt_mem (by omega)))) (by first | rfl | simp only [ls_len, ns_len] | (simp only [ls_len, ns_len]; omega))) ?_
    refine hl_y rfl rfl rfl (y_addn rfl rfl rfl (by have := catN_le ps (k + 1); rw [← catN_next (by omega), List.length_append] at this; omega)) ?_
    refine hl_y rfl rfl rfl (y_assign rfl rfl) ?_
    refine hl_nil ?_
    refine hq_then ?_
    refine hc_seq ?_
    refine hc_region ?_
    refine hl_y rfl rfl rfl (y_move rfl rfl) ?_
    refine hl_y rfl rfl rfl (y_as (y_lssn (q := 0) rfl rfl rfl ) (congrArg Value.bool (decide_eq_false (by omega)))) ?_
    refine hl_nil ?_
    refine hq_then ?_
    refine hc_ifF rfl ?_
    refine hc_skip ?_
    refine hq_in (hq_then ?_)
    refine hc_region ?_
    refine hl_y rfl rfl rfl (y_addn (q := 1) rfl rfl rfl (by omega)) ?_
    refine hl_y rfl rfl rfl (y_move rfl rfl) ?_
    refine hl_nil ?_
    exact hq_round (k + 1) (by omega) (by omega) ⟨rfl, rfl, lk_int rfl (by rw [← catN_next (by omega), List.length_append]), rfl, lk_int rfl (by omega), lk_int rfl (by omega), trivial⟩ (fun _ h => h)
  · replace c0 := of_decide_eq_false c0
    refine hc_exit ?_
    refine hq_then_exit (hq_loop_exit (hq_in_same (hq_then ?_)))
    refine hc_seq ?_
    have hcl := catN_le ps k
    refine hc_region ?_
    refine hl_y rfl rfl rfl (y_move rfl rfl) ?_
    refine hl_i rfl rfl rfl (e_call rfl F86 rfl (fun w hw => grow_ct ((catN ps k).length) (by omega) w) rfl) ?_; intro y24
    refine hl_y rfl rfl rfl (y_assign rfl rfl) ?_
    refine hl_nil ?_
    refine hq_then ?_
    refine hc_seq ?_
    refine hc_seq ?_
    refine hc_region ?_
    refine hl_y rfl rfl rfl (y_move rfl rfl) ?_
    refine hl_y rfl rfl rfl (y_lenE (ps.length) rfl rfl S75 rfl (rdF hp) (by first | rfl | simp only [ls_len, ns_len] | (simp only [ls_len, ns_len]; omega))) ?_
    refine hl_y rfl rfl rfl (y_move (v := vi 0) rfl rfl) ?_
    refine hl_nil ?_
    refine hq_then ?_
    refine hc_block ?_
    refine hc_loop2 (fun k u => k ≤ ps.length) (fun k u => ps.length - k) (fun k u => [(6, u), (25, pv), (26, vi ps.length), (27, vi k)]) (fun k u => Mm w [.row 5 u (ls vb (catN ps k))]) (0) (y24) (by omega) ⟨rfl, rfl, lk_int rfl (by omega), lk_int rfl (by omega), trivial⟩ (fun _ h => h) ?_
    intro k u hk
    refine hc_seq ?_
    refine hc_region ?_
    refine hl_y rfl rfl rfl (y_lssn rfl rfl rfl ) ?_
    refine hl_nil ?_
    refine hq_then ?_
    refine hc_seq ?_
    refine hc_if rfl (fun c2 => ?_) (fun c2 => ?_)
    · replace c2 := of_decide_eq_true c2
      refine hc_skip ?_
      refine hq_then ?_
      refine hc_seq ?_
      refine hc_block ?_
      refine hc_seq ?_
      refine hc_region ?_
      refine hl_y rfl rfl rfl (y_ixs rfl S75 rfl (rdF hp) rfl (by first | omega | (simp only [ls_len, ns_len]; omega) | (simp only [List.length_take, List.length_drop, ls_len, ns_len]; omega))) ?_
      refine hl_y rfl rfl rfl (y_ldr rfl O22 rfl (rdF hp) (pt_nth (by omega))) ?_
      refine hl_y rfl rfl rfl (y_assign rfl rfl) ?_
      refine hl_nil ?_
      refine hq_then ?_
      refine hc_region ?_
      refine hl_y rfl rfl rfl (y_move rfl rfl) ?_
      refine hl_y rfl rfl rfl (y_move rfl rfl) ?_
      refine hl_i rfl rfl rfl (e_appb 0 rfl A22_5 rfl rfl rfl (rdF (hq _ (pt_mem (by omega)))) rfl (by have := catN_le ps (k + 1); rw [← catN_next (by omega), List.length_append] at this; omega)) ?_; intro y33
      refine hl_y rfl rfl rfl (y_assign rfl rfl) ?_
      refine hl_nil ?_
      refine hq_in (hq_then ?_)
      refine hc_region ?_
      refine hl_y rfl rfl rfl (y_addn (q := 1) rfl rfl rfl (by omega)) ?_
      refine hl_y rfl rfl rfl (y_move rfl rfl) ?_
      refine hl_nil ?_
      exact hq_round2 (k + 1) (y33) (by omega) (by omega) ⟨rfl, rfl, lk_int rfl (by omega), lk_int rfl (by omega), trivial⟩ (fun _ h => h.setr 0 rfl (by rw [catN_next (by omega)]))
    · replace c2 := of_decide_eq_false c2
      refine hc_exit ?_
      refine hq_then_exit (hq_loop_exit2 (hq_in_same (hq_then ?_)))
      refine hc_seq ?_
      refine hc_region ?_
      refine hl_y rfl rfl rfl (y_move rfl rfl) ?_
      refine hl_y rfl rfl rfl (y_assign rfl rfl) ?_
      refine hl_nil ?_
      refine hq_then ?_
      refine hc_ret ?_
      exact hq_ret1 (u) rfl (rv_tmp rfl) rfl (fun _ h => h.mm (by rw [catN_all (by omega)]))

theorem chunk_ct (A : Option Addr) (len cap wd : Nat) (hwd : 1 ≤ wd) (w : World) : Ct Tryd.prog 68 #[.slice A len cap, vi wd] w (fun y : Nat × Nat => .func (.func 85) #[] #[.pointer (some ⟨y.1, 0, none⟩), .pointer (some ⟨y.2, 0, none⟩)]) (fun y => [.blk y.2 3 [vi wd], .blk y.1 22 [.slice A len cap]]) := by
  refine ct_of Tryd.func68 rfl Tryd.ntmps68 rfl ?_
  refine hc_seq ?_
  refine hc_region ?_
  refine hl_i rfl rfl rfl (e_box1 rfl rfl rfl) ?_; intro g2
  refine hl_i rfl rfl rfl (e_box1 rfl rfl rfl) ?_; intro g3
  refine hl_y rfl rfl rfl (y_assign rfl rfl) ?_
  refine hl_nil ?_
  refine hq_then ?_
  refine hc_seq ?_
  refine hc_seq ?_
  refine hc_region ?_
  refine hl_y rfl rfl rfl (y_ld 0 rfl O3 rfl rfl rfl) ?_
  refine hl_y rfl rfl rfl (y_lssn (q := 1) rfl rfl rfl ) ?_
  refine hl_nil ?_
  refine hq_then ?_
  refine hc_if rfl (fun c0 => ?_) (fun c0 => ?_)
  · replace c0 := of_decide_eq_true c0
    exfalso; omega
  · replace c0 := of_decide_eq_false c0
    refine hc_skip ?_
    refine hq_then ?_
    refine hc_seq ?_
    refine hc_region ?_
    refine hl_y rfl rfl rfl (y_func (vs := #[.pointer (some ⟨g2, 0, none⟩), .pointer (some ⟨g3, 0, none⟩)]) rfl rfl) ?_
    refine hl_y rfl rfl rfl (y_assign rfl rfl) ?_
    refine hl_nil ?_
    refine hq_then ?_
    refine hc_ret ?_
    exact hq_ret1 ((g2, g3)) rfl (rv_tmp rfl) rfl (fun _ h => h)

theorem chunk_itr (A : Option Addr) (len cap wd : Nat) (hwd : 1 ≤ wd) (hw2 : wd ≤ 4611686018427387904) (hlc : len ≤ cap) (hln : len ≤ 4611686018427387904) (gs gn : Nat) (w0 : World) {ι : Type} (LL : List (Fin (chunks len wd)) → ι → List Own) (y0 : ι) (i j : Nat) (hi : ∀ pre y, (LL pre y)[i]? = some (.blk gs 22 [.slice A len cap])) (hj : ∀ pre y, (LL pre y)[j]? = some (.blk gn 3 [vi wd])) : Itr Tryd.prog 85 #[.pointer (some ⟨gs, 0, none⟩), .pointer (some ⟨gn, 0, none⟩)] w0 (fun k : Fin (chunks len wd) => slc3 (.slice A len cap) (k.val * wd) (k.val * wd + min wd (len - k.val * wd)) (k.val * wd + min wd (len - k.val * wd))) LL y0 := by
  intro r X Y W hW hy
  refine callsIn_wide.2 (Calls.mono (R := fun e w' => ∃ y : ι, e = .returned (.tuple #[]) ∧ Mm w0 (X :: Y :: LL (List.finRange (chunks len wd)) y) w') ?_ (fun e w' ⟨y, he, hm⟩ => ⟨⟨_, he⟩, y, hm⟩))
  refine ctM_of (g := fun _ : ι => .tuple #[]) (R := fun y => Mm w0 (X :: Y :: LL (List.finRange (chunks len wd)) y)) Tryd.func85 rfl Tryd.ntmps85 rfl hW ?_
  refine hc_seq ?_
  refine hc_region ?_
  refine hl_y rfl rfl rfl (y_assign (v := vi 0) rfl rfl) ?_
  refine hl_nil ?_
  refine hq_then ?_
  refine hc_block ?_
  refine hc_loop2 (fun k y => k ≤ (chunks len wd)) (fun k y => (chunks len wd) - k) (fun k y => [(0, .func (.yield r) #[] #[]), (1, .pointer (some ⟨gs, 0, none⟩)), (2, .pointer (some ⟨gn, 0, none⟩)), (4, vi (k * wd))]) (fun k y => Mm w0 (X :: Y :: LL ((List.finRange (chunks len wd)).take k) y)) (0) (y0) (by omega) ⟨rfl, rfl, rfl, lk_int rfl (by simp), trivial⟩ (fun _ h => h) ?_
  intro k y hk
  refine hc_seq ?_
  refine hc_seq ?_
  refine hc_region ?_
  refine hl_y rfl rfl rfl (y_move rfl rfl) ?_
  refine hl_y rfl rfl rfl (y_ld (i + 2) rfl O22 rfl (hi _ _) rfl) ?_
  refine hl_y rfl rfl rfl (y_lenc rfl rfl S22 rfl) ?_
  refine hl_y rfl rfl rfl (y_lssn rfl rfl rfl ) ?_
  refine hl_nil ?_
  refine hq_then ?_
  refine hc_if rfl (fun c0 => ?_) (fun c0 => ?_)
  · replace c0 := of_decide_eq_true c0
    have hlt := chunks_lt hwd c0
    refine hc_skip ?_
    refine hq_then ?_
    refine hc_seq ?_
    refine hc_block ?_
    refine hc_seq ?_
    refine hc_draw (Mm w0 (X :: Y :: LL ((List.finRange (chunks len wd)).take k) y)) follows_mixed ?_
    refine hh_y 0 rfl rfl rfl rfl (by kernel_rfl) (by kernel_rfl) (by kernel_rfl) (fun _ h => h) (y_ld (j + 2) rfl O3 rfl (hj _ _) rfl) ?_
    refine hh_y 1 rfl rfl rfl rfl (by kernel_rfl) (by kernel_rfl) (by kernel_rfl) (fun _ h => h) (y_ld (i + 2) rfl O22 rfl (hi _ _) rfl) ?_
    refine hh_y 2 rfl rfl rfl rfl (by kernel_rfl) (by kernel_rfl) (by kernel_rfl) (fun _ h => h) (y_move rfl rfl) ?_
    refine hh_y 3 rfl rfl rfl rfl (by kernel_rfl) (by kernel_rfl) (by kernel_rfl) (fun _ h => h) (y_slcc rfl S22 rfl rfl (by omega) (by omega)) ?_
    refine hh_y 4 rfl rfl rfl rfl (by kernel_rfl) (by kernel_rfl) (by kernel_rfl) (fun _ h => h) (y_lenc rfl rfl S22 rfl) ?_
    refine hh_y 5 rfl rfl rfl rfl (by kernel_rfl) (by kernel_rfl) (by kernel_rfl) (fun _ h => h) (y_minn rfl rfl rfl) ?_
    refine hh_y 6 rfl rfl rfl rfl (by kernel_rfl) (by kernel_rfl) (by kernel_rfl) (fun _ h => h) (y_assign rfl rfl) ?_
    refine hh_done (by kernel_rfl) ?_
    refine hq_then ?_
    refine hc_seq ?_
    refine hc_regiony ?_
    refine hy_y rfl rfl rfl rfl (y_move rfl rfl) ?_
    refine hy_y rfl rfl rfl rfl (y_ld (i + 2) rfl O22 rfl (hi _ _) rfl) ?_
    refine hy_y rfl rfl rfl rfl (y_move rfl rfl) ?_
    refine hy_y rfl rfl rfl rfl (y_move rfl rfl) ?_
    refine hy_y rfl rfl rfl rfl (y_move rfl rfl) ?_
    refine hy_y rfl rfl rfl rfl (y_addn rfl rfl rfl (by omega)) ?_
    refine hy_y rfl rfl rfl rfl (y_move rfl rfl) ?_
    refine hy_y rfl rfl rfl rfl (y_move rfl rfl) ?_
    refine hy_y rfl rfl rfl rfl (y_addn rfl rfl rfl (by omega)) ?_
    refine hy_y rfl rfl rfl rfl (y_slc3c rfl S22 rfl rfl rfl rfl (by omega) (by omega) (by omega)) ?_
    refine hy_yield (M' := fun W => ∃ y', Mm w0 (X :: Y :: LL ((List.finRange (chunks len wd)).take k ++ [⟨k, hlt⟩]) y') W) rfl rfl rfl rfl rfl rfl (fun W hW => hy _ ⟨k, hlt⟩ y W (by simp; omega) hW) ?_
    refine HY.ex fun y1 => ?_
    refine hy_y rfl rfl rfl rfl (y_not rfl rfl) ?_
    refine hy_nil ?_
    refine hq_then ?_
    refine hc_ifF rfl ?_
    refine hc_skip ?_
    refine hq_in (hq_then ?_)
    refine hc_region ?_
    refine hl_y rfl rfl rfl (y_move rfl rfl) ?_
    refine hl_y rfl rfl rfl (y_ld (j + 2) rfl O3 rfl (hj _ _) rfl) ?_
    refine hl_y rfl rfl rfl (y_addn rfl rfl rfl (by omega)) ?_
    refine hl_y rfl rfl rfl (y_assign rfl rfl) ?_
    refine hl_nil ?_
    exact hq_round2 (k + 1) (y1) (by omega) (by omega) ⟨rfl, rfl, rfl, lk_int rfl (by rw [Nat.add_one_mul]), trivial⟩ (fun _ h => h.mm (by rw [fin_next hlt]))
  · replace c0 := of_decide_eq_false c0
    have hge := chunks_ge hwd c0
    refine hc_exit ?_
    exact hq_then_exit (hq_loop_exit2 (hq_in_same (hq_ret0 (y) rfl  rfl (fun _ h => h.mm (by rw [fin_all hge])))))

end Go.Proofs.YtcdidapkpfnphaaDoor
