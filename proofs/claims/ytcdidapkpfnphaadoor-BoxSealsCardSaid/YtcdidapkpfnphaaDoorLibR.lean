/- Words of my own for a row's proof: what a call's arguments read as, in the walks' words. -/
import Derived.Test.YtcdidapkpfnphaaDoorRows
import Derived.Test.YtcdidapkpfnphaaDoorLibG
import Derived.ProofKit
import Derived.OpenShut
import Derived.ShutString
import Derived.ChangeOld
namespace Go.Proofs.YtcdidapkpfnphaaDoor
open Go.ChangeShapes Go.WideShapes Go.ChangeAt Go.RowKit
theorem ownK : ownKnob Tryd.prog.godebug = none := by kernel_rfl
theorem laidOutK : laidOutB Tryd.prog = true := by kernel_rfl
theorem u8_of {n : Int} (h : (Lit.int .u8 n).wf = true) : ∃ x : UInt8, n = (x.toNat : Int) := by
  have hb := bounds_u8 h
  refine ⟨UInt8.ofNat n.toNat, ?_⟩
  simp
  omega
theorem u32_of {n : Int} (h : (Lit.int .u32 n).wf = true) : ∃ x : UInt32, n = (x.toNat : Int) := by
  have hb := bounds_u32 h
  refine ⟨UInt32.ofNat n.toNat, ?_⟩
  simp
  omega
section
variable {H : Type} {enc : TypeId × Value → H} {P : Program} {W : World} {base : Nat} {held : Bool} {d : DataW H} {p : List MemPlace} {v : Value}
theorem open_bytes {spare' : Nat → Bool} {t e : TypeId} (ht : P.underlying t = some (.slice e)) (he : P.underlying e = some (.int .u8)) (hce : P.cellsOf e = 1) {a0 : Option Addr} {len cap : Nat}
    (h : DataW.Trod enc P W base spare' held t (.slice a0 len cap) d p) : ∃ l : List UInt8, l.length = len ∧ len ≤ 9223372036854775807 ∧ Rd W (.slice a0 len cap) (ls vb l) := by
  obtain ⟨fuel, hf⟩ := h
  rcases open_ints ht he hce hf with ⟨hcs, _⟩ | ⟨x, l, c, zs, hcs, _, hl, hm, hz, _, hcell, hwz⟩
  · simp [Value.cells] at hcs
    obtain ⟨rfl, rfl, rfl⟩ := hcs
    exact ⟨[], rfl, by omega, none, 0, rfl, by simp [ls], fun j u hu => by simp [ls] at hu⟩
  · simp [Value.cells] at hcs
    obtain ⟨rfl, rfl, rfl⟩ := hcs
    have hz' : len ≤ zs.length := by rw [hz]; split <;> omega
    have hmap : ∀ i, i < zs.length → ∃ y : UInt8, zs.getD i 0 = (y.toNat : Int) := fun i hi => u8_of (hwz _ (by rw [List.getD_eq_getElem?_getD, List.getElem?_eq_getElem hi]; exact List.getElem_mem hi))
    refine ⟨(List.range len).map (fun i => UInt8.ofNat (zs.getD i 0).toNat), by simp, by simp only [maxLen] at hm; omega, some x, cap, by simp [ls], by simp [ls]; exact hl, fun j u hu => ⟨_, rfl, ?_⟩⟩
    have hj : j < len := by have := (List.getElem?_eq_some_iff.1 hu).1; simpa [ls] using this
    rw [hcell j (by omega)]
    obtain ⟨y, hy⟩ := hmap j (by omega)
    simp [ls, hj] at hu
    rw [← hu, hy]
    rw [List.getD_eq_getElem?_getD] at hy
    simp [hy]
theorem open_arr {spare' : Nat → Bool} {t e n : Nat} {k : IntKind} {α : Type} {vv : α → Value} (ht : P.underlying t = some (.array n e)) (he : P.underlying e = some (.int k)) (hce : P.cellsOf e = 1) (hct : P.cellsOf t = n) (hof : ∀ m : Int, (Lit.int k m).wf = true → ∃ x : α, Value.int k m = vv x) (x0 : α)
    (hv : ∃ cs, v = .agg cs ∧ cs.size = P.cellsOf t) (h : DataW.Trod enc P W base spare' held t v d p) : ∃ f : Nat → α, v = .agg (ns vv n f).toArray := by
  obtain ⟨cs, rfl, hsz⟩ := hv
  obtain ⟨fuel, hf⟩ := h
  obtain ⟨xs, m, _, _, hl, hn, hx⟩ := DataW.trod_array ht hf
  have hcell : ∀ i, i < n → ∃ y : α, cs[i]? = some (vv y) := by
    intro i hi
    have h1 := hx i hi
    rw [hce, Nat.mul_one] at h1
    have hi' : i < cs.size := by omega
    have h2 : ((Value.agg cs).cells.toList.drop i).take 1 = [cs[i]] := by
      simp only [Value.cells]
      rw [List.drop_eq_getElem_cons (by simpa using hi')]
      simp
    rw [h2] at h1
    cases hxi : xs[i]? with
    | none => have := List.getElem?_eq_none_iff.1 hxi; omega
    | some q =>
      rw [hxi] at h1
      obtain ⟨z, e0, _, wz⟩ := DataW.trod_int he h1
      simp at e0
      obtain ⟨y, hy⟩ := hof z wz
      exact ⟨y, by rw [Array.getElem?_eq_getElem hi', e0, hy]⟩
  refine ⟨fun i => if hi : i < n then Classical.choose (hcell i hi) else x0, ?_⟩
  congr 1
  apply Array.ext_getElem?
  intro i
  by_cases hi : i < n
  · rw [Classical.choose_spec (hcell i hi)]
    have h3 : (ns vv n (fun i => if hi : i < n then Classical.choose (hcell i hi) else x0)).toArray[i]? = some (vv (if hi : i < n then Classical.choose (hcell i hi) else x0)) := by simpa using ns_nth (v := vv) (f := fun i => if hi : i < n then Classical.choose (hcell i hi) else x0) hi
    rw [h3, dif_pos hi]
  · rw [Array.getElem?_eq_none (by omega), Array.getElem?_eq_none (by simp [ns_len]; omega)]
theorem okWide_arr {r : Reach} {b0 t n e : Nat} (ht : P.underlying t = some (.array n e)) (h : Value.okWide P W r b0 t v) : ∃ cs, v = .agg cs ∧ cs.size = P.cellsOf t := by
  unfold Value.okWide at h
  rw [ht] at h
  obtain ⟨cs, h1, h2, _⟩ := h
  exact ⟨cs, h1, h2⟩
end
theorem vb_of (m : Int) (h : (Lit.int .u8 m).wf = true) : ∃ x : UInt8, Value.int .u8 m = vb x := by obtain ⟨x, rfl⟩ := u8_of h; exact ⟨x, rfl⟩
theorem vw_of (m : Int) (h : (Lit.int .u32 m).wf = true) : ∃ x : UInt32, Value.int .u32 m = vw x := by obtain ⟨x, rfl⟩ := u32_of h; exact ⟨x, rfl⟩
theorem ct0_below {P : Program} {f : Nat} {args : Array Value} {w : World} {v : Value} (h : Ct0 P f args w v) : Calls P f args w fun e w' => e = .returned v ∧ Below w.heap.size w w' :=
  h.mono fun _ _ ⟨_, he, hm⟩ => ⟨he, hm.low⟩
end Go.Proofs.YtcdidapkpfnphaaDoor
