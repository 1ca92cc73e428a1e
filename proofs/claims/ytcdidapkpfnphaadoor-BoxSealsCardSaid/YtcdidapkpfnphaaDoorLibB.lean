/- Words of my own for memory: the blocks and rows of the call's own, slices that are read, and what each operation does to them. -/
import Derived.Test.YtcdidapkpfnphaaDoorLibA
import Derived.Laws.OwnMore
import Derived.Laws.CopyOwn
namespace Go.Proofs.YtcdidapkpfnphaaDoor
open Go.RowKit

/-! ### What the call owns -/
inductive Own where
  | blk (g : Nat) (t : TypeId) (cs : List Value)
  | row (t : TypeId) (v : Value) (xs : List Value)
  | ro (g : Nat) (v : Value) (xs : List Value)
  | obj (g : Nat) (o : Obj)
def Own.at_ : Own → Option Nat
  | .blk g _ _ => some g
  | .row _ v _ => v.ownBlock
  | .ro g _ _ => some g
  | .obj g _ => some g
def Own.ok (B : Nat) (w : World) : Own → Prop
  | .blk g t cs => B ≤ g ∧ w.heap[g]? = some (.cells cs.toArray t (0, 0))
  | .row t v xs => w.ownsRow B t 1 v xs.length xs
  | .ro g v xs => B ≤ g ∧ g < w.heap.size ∧ ∃ A c, v = .slice A xs.length c ∧ xs.length ≤ c ∧ ∀ j u, xs[j]? = some u → ∃ ad : Addr, A = some ad ∧ ad.block = g ∧ w.cell? (ad.add j) = some u
  | .obj g o => B ≤ g ∧ w.heap[g]? = some o
def Own.apart (x y : Own) : Prop := ∀ b, x.at_ = some b → y.at_ ≠ some b
structure Mem (w0 w : World) (L : List Own) : Prop where
  low : Below w0.heap.size w0 w
  ok : ∀ x ∈ L, x.ok w0.heap.size w
  apart : L.Pairwise Own.apart
def Mm (w0 : World) (L : List Own) : As := fun w => Mem w0 w L
theorem Own.apart_symm {x y : Own} (h : x.apart y) : y.apart x := fun b hy hx => h b hx hy
theorem Own.ok_lt {B : Nat} {w : World} {x : Own} (h : x.ok B w) {b : Nat} (hb : x.at_ = some b) : B ≤ b ∧ b < w.heap.size := by
  cases x with
  | blk g t cs =>
    simp only [Own.at_, Option.some.injEq] at hb
    subst hb
    exact ⟨h.1, (Array.getElem?_eq_some_iff.1 h.2).1⟩
  | row t v xs => exact World.ownsRow.lt h b hb
  | ro g v xs =>
    simp only [Own.at_, Option.some.injEq] at hb
    subst hb
    exact ⟨h.1, h.2.1⟩
  | obj g o =>
    simp only [Own.at_, Option.some.injEq] at hb
    subst hb
    exact ⟨h.1, (Array.getElem?_eq_some_iff.1 h.2).1⟩
/-- What is owned stays owned while its block stays as it was. -/
theorem Own.ok_keep {B : Nat} {w w' : World} {x : Own} (h : x.ok B w) (hb : ∀ b, x.at_ = some b → w'.heap[b]? = w.heap[b]?) : x.ok B w' := by
  cases x with
  | blk g t cs => exact ⟨h.1, (hb g rfl).trans h.2⟩
  | row t v xs =>
    obtain ⟨h1, h2⟩ := h
    refine ⟨h1, ?_⟩
    rcases h2 with h2 | ⟨g, cap, cur, rfl, hg, hh, r⟩
    · exact .inl h2
    · exact .inr ⟨g, cap, cur, rfl, hg, (hb g rfl).trans hh, r⟩
  | ro g v xs =>
    obtain ⟨h1, h2, A, c, hv, hc, hx⟩ := h
    have hg := hb g rfl
    refine ⟨h1, ?_, A, c, hv, hc, fun j u hu => ?_⟩
    · rw [Array.getElem?_eq_getElem h2] at hg
      exact (Array.getElem?_eq_some_iff.1 hg).1
    · obtain ⟨ad, rfl, hbk, hcell⟩ := hx j u hu
      refine ⟨ad, rfl, hbk, ?_⟩
      have hbk' : (ad.add j).block = g := by rw [← hbk]; unfold Addr.add; split <;> rfl
      rw [← hcell]
      exact World.cell?_of_block (w := w) (by rw [hbk']; exact hg)
  | obj g o => exact ⟨h.1, (hb g rfl).trans h.2⟩
theorem Own.ok_mono {B B' : Nat} {w : World} {x : Own} (h : x.ok B w) (hB : B' ≤ B) : x.ok B' w := by
  cases x with
  | blk g t cs => exact ⟨Nat.le_trans hB h.1, h.2⟩
  | row t v xs =>
    obtain ⟨h1, h2⟩ := h
    refine ⟨h1, ?_⟩
    rcases h2 with h2 | ⟨g, cap, cur, rfl, hg, r⟩
    · exact .inl h2
    · exact .inr ⟨g, cap, cur, rfl, Nat.le_trans hB hg, r⟩
  | ro g v xs => exact ⟨Nat.le_trans hB h.1, h.2⟩
  | obj g o => exact ⟨Nat.le_trans hB h.1, h.2⟩
theorem Mem.nil (w : World) : Mem w w [] := ⟨Below.refl _ _, by simp, List.Pairwise.nil⟩
theorem Mem.mm {w0 w : World} {L L' : List Own} (h : Mem w0 w L) (e : L = L') : Mem w0 w L' := e ▸ h
theorem Mem.size {w0 w : World} {L : List Own} (h : Mem w0 w L) : w0.heap.size ≤ w.heap.size := h.low.size
theorem Mem.at_ {w0 w : World} {L : List Own} (h : Mem w0 w L) {i : Nat} {x : Own} (hi : L[i]? = some x) : x.ok w0.heap.size w := h.ok x (List.mem_of_getElem? hi)
theorem Mem.tail {w0 w : World} {x : Own} {L : List Own} (h : Mem w0 w (x :: L)) : Mem w0 w L := ⟨h.low, fun y hy => h.ok y (List.mem_cons_of_mem _ hy), (List.pairwise_cons.1 h.apart).2⟩
theorem Mem.drew {w0 w : World} {L : List Own} (h : Mem w0 w L) : Mem w0 w.drew L := ⟨h.low.drew, fun x hx => Own.ok_keep (h.ok x hx) fun _ _ => rfl, h.apart⟩
/-- Entries picked by their places, each once. -/
theorem Mem.pick {w0 w : World} {L : List Own} (h : Mem w0 w L) (is : List Nat) (hn : is.Nodup) : Mem w0 w (is.filterMap (L[·]?)) := by
  refine ⟨h.low, fun x hx => ?_, ?_⟩
  · obtain ⟨i, _, hi⟩ := List.mem_filterMap.1 hx
    exact h.at_ hi
  · have hp : ∀ (i j : Nat) (x y : Own), L[i]? = some x → L[j]? = some y → i ≠ j → x.apart y := by
      intro i j x y hi hj hne
      obtain ⟨hli, rfl⟩ := List.getElem?_eq_some_iff.1 hi
      obtain ⟨hlj, rfl⟩ := List.getElem?_eq_some_iff.1 hj
      rcases Nat.lt_or_gt_of_ne hne with hlt | hgt
      · exact List.pairwise_iff_getElem.1 h.apart i j hli hlj hlt
      · exact Own.apart_symm (List.pairwise_iff_getElem.1 h.apart j i hlj hli hgt)
    induction is with
    | nil => exact List.Pairwise.nil
    | cons i is ih =>
      have hn' := List.nodup_cons.1 hn
      have ih' := ih hn'.2
      rw [List.filterMap_cons]
      split
      · exact ih'
      · rename_i x hx
        refine List.pairwise_cons.2 ⟨fun y hy => ?_, ih'⟩
        obtain ⟨j, hj, hjy⟩ := List.mem_filterMap.1 hy
        exact hp i j x y hx hjy (fun e => hn'.1 (e ▸ hj))
/-- A block of its own is added. -/
theorem Mem.add {w0 w : World} {L : List Own} (h : Mem w0 w L) (t : TypeId) (cs : List Value) : Mem w0 (w.alloc (.cells cs.toArray t)) (.blk w.heap.size t cs :: L) := by
  refine ⟨h.low.alloc h.size _, fun x hx => ?_, List.pairwise_cons.2 ⟨fun y hy b hb => ?_, h.apart⟩⟩
  · rcases List.mem_cons.1 hx with rfl | hx
    · exact ⟨h.size, heap_alloc_new w _⟩
    · exact Own.ok_keep (h.ok x hx) fun b hb => Below.heap_alloc w _ b (Own.ok_lt (h.ok x hx) hb).2
  · simp only [Own.at_, Option.some.injEq] at hb
    subst hb
    intro hy'
    have := ((Own.ok_lt (h.ok y hy)) hy').2
    omega
/-- The callee's own is added: the caller's stays. -/
theorem Mem.frame {w0 w w' : World} {L R : List Own} (h : Mem w0 w L) (k : Mem w w' R) : Mem w0 w' (R ++ L) := by
  refine ⟨h.low.trans (k.low.mono h.size), fun x hx => ?_, List.pairwise_append.2 ⟨k.apart, h.apart, fun x hx y hy b hb hb' => ?_⟩⟩
  · rcases List.mem_append.1 hx with hx | hx
    · exact Own.ok_mono (k.ok x hx) h.size
    · exact Own.ok_keep (h.ok x hx) fun b hb => k.low.block b (Own.ok_lt (h.ok x hx) hb).2
  · have h1 := (Own.ok_lt (k.ok x hx) hb).1
    have h2 := ((Own.ok_lt (h.ok y hy)) hb').2
    omega
/-- Entry i is written anew; nothing else of the call's own is. -/
theorem Mem.turn {w0 w w' : World} {L : List Own} (h : Mem w0 w L) {i : Nat} {x y : Own} (hi : L[i]? = some x) (hb : ∀ b, w0.heap.size ≤ b → b < w.heap.size → x.at_ ≠ some b → w'.heap[b]? = w.heap[b]?)
    (hl : Below w0.heap.size w0 w') (hy : y.ok w0.heap.size w') (hat : y.at_ = x.at_ ∨ ∀ b, y.at_ = some b → w.heap.size ≤ b) : Mem w0 w' (L.set i y) := by
  obtain ⟨hli, hxi⟩ := List.getElem?_eq_some_iff.1 hi
  have hap : ∀ j (hj : j < L.length), j ≠ i → (L[j]).apart x := by
    intro j hj hne
    rw [← hxi]
    rcases Nat.lt_or_gt_of_ne hne with hlt | hgt
    · exact List.pairwise_iff_getElem.1 h.apart j i hj hli hlt
    · exact Own.apart_symm (List.pairwise_iff_getElem.1 h.apart i j hli hj hgt)
  have hap' : ∀ j (hj : j < L.length), j ≠ i → (L[j]).apart y := by
    intro j hj hne b hb' hyb
    rcases hat with hat | hat
    · exact hap j hj hne b hb' (hat ▸ hyb)
    · have h1 := hat b hyb
      have h2 := ((Own.ok_lt (h.ok _ (List.getElem_mem hj))) hb').2
      omega
  refine ⟨hl, fun z hz => ?_, List.pairwise_iff_getElem.2 fun j k hj hk hjk => ?_⟩
  · obtain ⟨j, hj, rfl⟩ := List.mem_iff_getElem.1 hz
    rw [List.getElem_set]
    rw [List.length_set] at hj
    split
    · exact hy
    · rename_i hne
      have hok := h.ok _ (List.getElem_mem hj)
      exact Own.ok_keep hok fun b hb' => hb b (Own.ok_lt hok hb').1 (Own.ok_lt hok hb').2 (fun hx => hap j hj (fun e => hne e.symm) b hb' hx)
  · rw [List.length_set] at hj hk
    rw [List.getElem_set, List.getElem_set]
    split
    · rename_i e
      subst e
      rw [if_neg (by omega)]
      exact Own.apart_symm (hap' k hk (by omega))
    · split
      · rename_i hne e
        subst e
        exact hap' j hj (by omega)
      · exact List.pairwise_iff_getElem.1 h.apart j k hj hk hjk
end Go.Proofs.YtcdidapkpfnphaaDoor
