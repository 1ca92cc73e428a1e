/- Words of my own for a tied row: what the listed variable gives the walks; the start of which one knows that it holds. -/
import Derived.Test.YtcdidapkpfnphaaDoorLibR
import Derived.Test.YtcdidapkpfnphaaDoorSpecShb
import Derived.LaidMore
import Derived.MakeChecks
namespace Go.Proofs.YtcdidapkpfnphaaDoor
open Go.ChangeShapes Go.WideShapes Go.ChangeAt Go.RowKit
def laidK : List (String × DataW Unit) := [("oubliette/sha.k", Rows.laid_oubliette_sha_k)]
theorem gK : Tryd.prog.globalNamed "oubliette/sha.k" = some 0 := by kernel_rfl
theorem tK : (Tryd.prog.globals[0]?).map (·.type) = some 31 := by kernel_rfl
theorem laid_eq : (Rows.laid_oubliette_sha_k : DataW Unit) = .agg ((List.range 64).map fun t => .lit (.int .u32 ((kT t).toNat : Int))) := by kernel_rfl
theorem kl_of_laid {W : World} (h : laidMetH Tryd.prog laidK W) : KL W := by
  rw [MakeChecks.laidMetH_plain _ _ _ (by kernel_rfl)] at h
  obtain ⟨ps, ⟨g0, t0, cs0, f0, p0, q0, hg0, ht0, hv0, hd0, _⟩, _, _⟩ := h
  obtain rfl := Option.some.inj (gK.symm.trans hg0)
  obtain rfl := Option.some.inj (tK.symm.trans ht0)
  obtain ⟨xs, m1, rfl, hx1, hlen, hn, hel⟩ := DataW.trod_array Tryd.underlying31 hd0
  have c28 : Tryd.prog.cellsOf 28 = 1 := by kernel_rfl
  have c31 : Tryd.prog.cellsOf 31 = 64 := by kernel_rfl
  intro t ht
  have h1 := hel t ht
  rw [c28, Nat.mul_one] at h1
  rw [c31] at hlen
  have h2 : (cs0.toList.drop t).take 1 = [cs0.toList[t]'(by omega)] := by
    rw [List.drop_eq_getElem_cons (by omega)]
    simp
  rw [h2] at h1
  have hxt : t < xs.length := by omega
  rw [List.getElem?_eq_getElem hxt] at h1
  obtain ⟨n, e0, e1, _⟩ := DataW.trod_int Tryd.underlying28 h1
  have hx2 : (Rows.laid_oubliette_sha_k : DataW Unit) = .agg (xs.map (·.1)) := (Prod.mk.inj hx1).1
  rw [laid_eq] at hx2
  simp only [DataW.agg.injEq] at hx2
  have h3 := congrArg (·[t]?) hx2
  simp only [List.getElem?_map, List.getElem?_range ht, List.getElem?_eq_getElem hxt, Option.map_some, Option.some.injEq, e1, DataW.lit.injEq, Lit.int.injEq, true_and] at h3
  subst h3
  rw [World.var?_cell gK hv0 t]
  have hct : t < cs0.size := by simpa using (by omega : t < cs0.toList.length)
  rw [Array.getElem?_eq_getElem hct]
  simp only [List.cons.injEq, and_true] at e0
  rw [← Array.getElem_toList, e0]
/-- The door's own heap meets the condition. -/
theorem door_met (os : Os) (args : Array Value) : laidMetH Tryd.prog laidK ((World.doorLaid Tryd.prog 400 os).forCall (fun _ _ => 0) ⟨#[], args, []⟩).memory :=
  laidMetH_of_parts3 (fuel := 8) (laidMet_of_run' 8 (by kernel_rfl) (by kernel_rfl)) (by kernel_rfl) (by kernel_rfl)
end Go.Proofs.YtcdidapkpfnphaaDoor
