/-
  The law BoxSeals gives back true for every input: the box of any text, by any key and nonce, and the keys that seal and tag it, are as the reference says. The package variable sha.k starts as the program lays it: the card ties it.
-/
import Derived.Test.YtcdidapkpfnphaaDoorLibT
import Derived.Test.YtcdidapkpfnphaaDoorTie
import Derived.Test.YtcdidapkpfnphaaDoorCards
import Derived.SevenTiedAt
import Derived.Test.YtcdidapkpfnphaaDoorLibR
import Derived.Test.YtcdidapkpfnphaaDoorBoxLaws
namespace Go.Proofs.YtcdidapkpfnphaaDoor
open Go.ChangeShapes Go.WideShapes Go.ChangeAt Go.RowKit
open Go.ChangeMaps (open_string shut_string)
set_option linter.unusedVariables false
theorem boxSeals_walk (v0 : Value) (a0 : List UInt8) (v1 : Value) (a1 : List UInt8) (v2 : Value) (a2 : List UInt8) (a3 : Int) (w : World) (w0 : Rd w v0 (ls vb a0)) (m0 : a0.length ≤ 9223372036854775807) (w1 : Rd w v1 (ls vb a1)) (m1 : a1.length ≤ 9223372036854775807) (w2 : Rd w v2 (ls vb a2)) (m2 : a2.length ≤ 9223372036854775807) (w3 : (Lit.int .i64 a3).wf = true) (hkl : KL w) :
    Calls Tryd.prog 15 #[v0, v1, v2, .int .i64 a3] w fun e w' => e = .returned (.bool true) ∧ Below w.heap.size w w' := by
  have hb := bounds_i64 w3
  by_cases h : a0.length = 32 ∧ a1.length = 16
  · by_cases hz : a3 < 0
    · exact ct0_below (boxSeals_nok a0 v0 a1 v1 a2 v2 a3 (by omega) hz w w0 m0 w1 m1 w2 m2 hkl h.1 h.2)
    · obtain ⟨n, rfl⟩ := Int.eq_ofNat_of_zero_le (show 0 ≤ a3 by omega)
      exact ct0_below (boxSeals_pok a0 v0 a1 v1 a2 v2 n (by omega) w w0 m0 w1 m1 w2 m2 hkl h.1 h.2)
  · by_cases hz : a3 < 0
    · exact ct0_below (boxSeals_nno a0 v0 a1 v1 a2 v2 a3 (by omega) hz w w0 m0 w1 m1 w2 m2 hkl h)
    · obtain ⟨n, rfl⟩ := Int.eq_ofNat_of_zero_le (show 0 ≤ a3 by omega)
      exact ct0_below (boxSeals_pno a0 v0 a1 v1 a2 v2 n (by omega) w w0 m0 w1 m1 w2 m2 hkl h)
set_option maxRecDepth 100000 in
theorem boxSeals_lifted (os : Os) (started : os.Started) (H : Type) (enc : TypeId × Value → H) :
    ReturnsInHanded {} Tryd.checked os 15 .any (fun w args => (Rows.boxSealsSpec.pre enc Tryd.prog Tryd.f15 [] false w args ∧ laidMetH Tryd.prog laidK w) ∧ sizedMet enc Tryd.prog Tryd.f15 (OpenSpec.ofChange Rows.boxSealsSpec) false w args) (Rows.boxSealsSpec.post enc Tryd.prog Tryd.f15 false true false false) := by
  refine returnsInHanded_of_change_and (C := Tryd.checked) (X := fun w _ => laidMetH Tryd.prog laidK w) (fun _ _ _ hh h => h.of_heap hh) ownK started (by kernel_rfl) Tryd.func15
    (ChangeSpec.witness_shaped (enc := enc) (C := Tryd.checked) (os := os) (X := fun w _ => laidMetH Tryd.prog laidK w) false (World.doorLaid Tryd.prog 400 os) #[.slice none 0 0, .slice none 0 0, .slice none 0 0, .int .i64 0] 8 rfl (World.shaped_of_RefB (by kernel_rfl) (by kernel_rfl)) (by kernel_rfl) (by kernel_rfl) (by kernel_rfl) (door_met os _)) ?_
  intro W base args ds gs before hval0 hW _ _ hL _
  have hval : ∀ (j : Nat) t v, Tryd.f15.params[j]? = some t → args[j]? = some v → Value.okWide Tryd.prog W .any base t v := hval0
  have hW' := hW
  obtain ⟨p, q, hA0, hV, rfl, hfz, hnd⟩ := hW
  have hA : DataW.TrodAll enc Tryd.prog W 0 (fun _ => true) true Tryd.f15.params.toList args.toList ds p := hA0
  rw [Tryd.params15] at hA hval
  obtain ⟨v0, vs0, d0, ds0, p0, q0, hargs, rfl, rfl, h0, r0⟩ := trodAll_cons hA
  obtain ⟨v1, vs1, d1, ds1, p1, q1, rfl, rfl, rfl, h1, r1⟩ := trodAll_cons r0
  obtain ⟨v2, vs2, d2, ds2, p2, q2, rfl, rfl, rfl, h2, r2⟩ := trodAll_cons r1
  obtain ⟨v3, vs3, d3, ds3, p3, q3, rfl, rfl, rfl, h3, r3⟩ := trodAll_cons r2
  obtain ⟨rfl, rfl, rfl⟩ := trodAll_nil r3
  obtain rfl : args = #[v0, v1, v2, v3] := by cases args; simp_all
  obtain ⟨rfl, rfl⟩ := trodVars_none hV
  obtain ⟨b0, len0, cap0, rfl⟩ := okWide_slice Tryd.underlying22 (hval 0 22 v0 rfl rfl)
  have k0 := h0
  have lt0 : ∀ x ∈ p0, x.block < W.heap.size := by obtain ⟨m, hm⟩ := k0; exact DataW.trod_lt m _ _ _ hm
  obtain ⟨a0, l0, m0, w0⟩ := open_bytes Tryd.underlying22 Tryd.underlying5 (by kernel_rfl) h0
  obtain ⟨b1, len1, cap1, rfl⟩ := okWide_slice Tryd.underlying22 (hval 1 22 v1 rfl rfl)
  have k1 := h1
  have lt1 : ∀ x ∈ p1, x.block < W.heap.size := by obtain ⟨m, hm⟩ := k1; exact DataW.trod_lt m _ _ _ hm
  obtain ⟨a1, l1, m1, w1⟩ := open_bytes Tryd.underlying22 Tryd.underlying5 (by kernel_rfl) h1
  obtain ⟨b2, len2, cap2, rfl⟩ := okWide_slice Tryd.underlying22 (hval 2 22 v2 rfl rfl)
  have k2 := h2
  have lt2 : ∀ x ∈ p2, x.block < W.heap.size := by obtain ⟨m, hm⟩ := k2; exact DataW.trod_lt m _ _ _ hm
  obtain ⟨a2, l2, m2, w2⟩ := open_bytes Tryd.underlying22 Tryd.underlying5 (by kernel_rfl) h2
  obtain ⟨a3, rfl, rfl, rfl, w3⟩ := open_int Tryd.underlying3 (hval 3 3 v3 rfl rfl) h3
  clear hA0 hval0
  refine (boxSeals_walk _ a0 _ a1 _ a2 a3 W w0 (by omega) w1 (by omega) w2 (by omega) w3 (kl_of_laid hL)).mono fun e W' ⟨he, bel⟩ => ?_
  subst he
  exact ⟨_, rfl, _, _, _, [], _, [], hW', trodAll_mk1 (shut_bool Tryd.underlying4 _), (trodAll_cons_mk (Below.trod laidOutK (by kernel_rfl) (of_decide_eq_true (by kernel_rfl)) k0 bel lt0) (trodAll_cons_mk (Below.trod laidOutK (by kernel_rfl) (of_decide_eq_true (by kernel_rfl)) k1 bel lt1) (trodAll_cons_mk (Below.trod laidOutK (by kernel_rfl) (of_decide_eq_true (by kernel_rfl)) k2 bel lt2) (trodAll_cons_mk (shut_int Tryd.underlying3 w3) trodAll_mk0)))), rfl, bel.frame _, fun h => by cases h⟩
theorem boxSeals_over : Rows.boxSealsRow.holds Tryd.pinned (OpenSpec.ofChange Rows.boxSealsSpec) :=
  OpenClaim.holds_of_wide 15 Tryd.f15 rfl rfl rfl rfl rfl rfl rfl ⟨rfl, rfl, rfl, rfl, rfl⟩ rfl rfl rfl rfl rfl (by kernel_rfl) Tryd.func15 (by kernel_rfl)
    (of_decide_eq_true (by kernel_rfl)) (by unfold Func.isWrapper; first | (rw [if_pos (by decide +kernel)]; kernel_rfl) | (rw [if_neg (by decide +kernel)]; exact ⟨rfl, rfl⟩))
    (fun os started H enc _ => boxSeals_lifted os started H enc)
theorem boxSeals_card : Claim7.holds Tryd.pinned (.plain (OpenSpec.ofChange Rows.boxSealsSpec)) Rows.boxSealsCard :=
  Claim7.holds_tied_plain_at .later [] [.data] true Rows.boxSealsCard.stood.harness false
    boxSeals_over (fun _ h => by cases h) (by kernel_rfl) (fun _ h => by cases h) boxSeals_row_tie rfl ⟨rfl, rfl⟩ (by kernel_rfl) rfl
    (fun f fn hf hfn => by
      obtain rfl : f = 15 := Option.some.inj ((show Tryd.prog.funcNamed "oubliette/oubliettelaw13.BoxSeals" = some 15 by kernel_rfl).symm.trans hf) |>.symm
      obtain rfl : fn = Tryd.f15 := (Option.some.inj (Tryd.func15.symm.trans hfn)).symm
      exact ⟨by kernel_rfl, fun j t ht => by
        rw [Tryd.params15] at ht
        have hm : t ∈ [22, 22, 22, 3] := by simpa using Array.mem_of_getElem? ht
        have hall : ([22, 22, 22, 3].all fun u => !Tryd.prog.wantsStandIn u) = true := by kernel_rfl
        exact (show Tryd.prog.wantsStandIn t = false by simpa using List.all_eq_true.1 hall t hm)⟩)
    (by kernel_rfl)
/-- The statement. -/
theorem boxSeals_holds : Rows.BoxSealsCardSaid := boxSeals_card
#print axioms boxSeals_holds
end Go.Proofs.YtcdidapkpfnphaaDoor
