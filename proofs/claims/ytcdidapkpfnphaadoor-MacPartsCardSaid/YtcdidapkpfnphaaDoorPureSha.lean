/- Sums that are reckoned out: the schedule and the rounds by lists, and what the sum of no bytes begins with. -/
import Derived.Test.YtcdidapkpfnphaaDoorSpecShb
namespace Go.Proofs.YtcdidapkpfnphaaDoor
open Go.RowKit
def schA (l : List UInt8) : Nat → List UInt32
  | 0 => []
  | t + 1 => schA l t ++ [if t < 16 then w0F l t else highW ((schA l t).getD (t - 2) 0) + (schA l t).getD (t - 7) 0 + lowW ((schA l t).getD (t - 15) 0) + (schA l t).getD (t - 16) 0]
theorem schA_len (l : List UInt8) : ∀ t, (schA l t).length = t
  | 0 => rfl
  | t + 1 => by rw [schA, List.length_append, schA_len l t]; rfl
theorem schA_eq (l : List UInt8) : ∀ n t, t < n → (schA l n).getD t 0 = sch l t := by
  intro n
  induction n with
  | zero => intro t h; omega
  | succ n ih =>
    intro t h
    rw [schA]
    by_cases ht : t < n
    · rw [List.getD_eq_getElem?_getD, List.getElem?_append_left (by rw [schA_len]; exact ht), ← List.getD_eq_getElem?_getD]
      exact ih t ht
    · have e : t = n := by omega
      subst e
      rw [List.getD_eq_getElem?_getD, List.getElem?_append_right (by rw [schA_len]; omega), schA_len, Nat.sub_self]
      simp only [List.getElem?_cons_zero, Option.getD_some]
      by_cases h16 : t < 16
      · rw [if_pos h16, sch_lo h16]
      · rw [if_neg h16, sch_hi h16, ih _ (by omega), ih _ (by omega), ih _ (by omega), ih _ (by omega)]
def blkT (ws : List UInt32) (h : Nat → UInt32) : Nat → Nat → UInt32
  | 0 => h
  | t + 1 => rndS (kT t) (ws.getD t 0) (blkT ws h t)
theorem blkT_eq (l : List UInt8) (h : Nat → UInt32) : ∀ t, t ≤ 64 → blkT (schA l 64) h t = blkS l h t
  | 0, _ => rfl
  | t + 1, ht => by rw [blkT, blkS, schA_eq l 64 t (by omega), blkT_eq l h t (by omega)]
/-- A block, by lists. -/
def blkE (h : List UInt32) (l : List UInt8) : List UInt32 := (List.range 8).map fun i => blkT (schA l 64) (fun j => h.getD j 0) 64 i + h.getD i 0
theorem blkE_eq (h : List UInt32) (l : List UInt8) {i : Nat} (hi : i < 8) : (blkE h l).getD i 0 = cmpS (fun j => h.getD j 0) l i := by
  rw [blkE, List.getD_eq_getElem?_getD]
  simp only [List.getElem?_map, List.getElem?_range hi, Option.map_some, Option.getD_some]
  rw [cmpS, blkT_eq _ _ 64 (Nat.le_refl _)]
def sumE (l : List UInt8) (k : Nat) : List UInt32 := (List.range k).foldl (fun h j => blkE h (chunk l 64 j)) fNs
theorem sumE_eq (l : List UInt8) : ∀ k i, i < 8 → (sumE l k).getD i 0 = sumS l k i
  | 0, _, _ => rfl
  | k + 1, i, hi => by
    rw [sumS_next]
    have e : sumE l (k + 1) = blkE (sumE l k) (chunk l 64 k) := by rw [sumE, List.range_succ, List.foldl_append]; rfl
    rw [e, blkE_eq _ _ hi]
    exact cmpS_ext (fun j hj => sumE_eq l k j hj) _ i hi
def shaE (l : List UInt8) : List UInt8 := outL (fun i => (sumE (allL l) ((allL l).length / 64)).getD i 0) 8
theorem outL_ext {f g : Nat → UInt32} {n : Nat} (h : ∀ i, i < n → f i = g i) : outL f n = outL g n := by
  unfold outL
  rw [List.flatMap_def, List.flatMap_def]
  congr 1
  exact List.map_congr_left fun i hi => by rw [h i (List.mem_range.1 hi)]
theorem shaE_eq (l : List UInt8) : shaL l = shaE l := (outL_ext fun i hi => sumE_eq _ _ i hi).symm
set_option maxRecDepth 100000 in
theorem sha_nil : (shaL []).getD 0 0 = 227 ∧ (shaL []).getD 1 0 = 176 ∧ (shaL []).getD 2 0 = 196 ∧ (shaL []).getD 3 0 = 66 := by
  rw [shaE_eq]
  decide +kernel
end Go.Proofs.YtcdidapkpfnphaaDoor
