/- Words of my own: operations that may act in either order, rows of bytes that are handed on. -/
import Derived.Test.YtcdidapkpfnphaaDoorLibH
namespace Go.Proofs.YtcdidapkpfnphaaDoor
open Go.RowKit
/-! Draws: two that act. -/
section
variable {P : Program} {ops : Array Oper} {Q : Exit → Act → World → Prop} {n : Fz} {s : Sl} {M : As} {S : As} {fuel : Nat} {listed : Array Bool}
def HO (P : Program) (ops : Array Oper) (Q : Exit → Act → World → Prop) (S : As) (fuel : Nat) (listed : Array Bool) (n : Fz) (s : Sl) (M : As) (i : Nat) : Prop :=
  ∀ a w, Fr n s a → M w → wpOp P ops (NoP Q) i (fun a' w' => S w' ∧ wpAnyH P .any ops (NoP Q) S fuel (listed.setIfInBounds i true) a' w') a w
theorem hh_or2 (i j : Nat) (hr : Region.ready .any ops listed = [i, j]) (hi : HO P ops Q S fuel listed n s M i) (hj : HO P ops Q S fuel listed n s M j) : HH P ops Q S (fuel + 1) listed n s M := fun a w hfr hm =>
  wpAnyH_all hr (by simp) fun k hk => by
    simp only [List.mem_cons, List.not_mem_nil, or_false] at hk
    rcases hk with rfl | rfl
    · exact hi a w hfr hm
    · exact hj a w hfr hm
theorem ho_i {o : Oper} {ι : Type} {f : ι → Value} {R : ι → As} {d : Nat} (i : Nat) (hi : ops[i]? = some o) (hg : o.guard = none) (hd : o.dst = some d) (hn : Nat.blt d n.n = true)
    (he : EfI P s M o f R) (hRS : ∀ y w, R y w → S w) (h : ∀ y, HH P ops Q S fuel (listed.setIfInBounds i true) n ((d, f y) :: s) (R y)) : HO P ops Q S fuel listed n s M i := fun a w hfr hm => by
  unfold wpOp
  simp only [hi]
  rw [if_pos (by simp [Region.wanted, hg])]
  exact .inl (he a (fun x u hx => hfr.eval hx) w hm _ _ fun y w' hy => by rw [hd]; exact ⟨hRS y w' hy, h y _ w' (hfr.put hn (f y)) hy⟩)
end
theorem RdM.as {M : As} {v : Value} {xs ys : List Value} (h : RdM M v xs) (e : xs = ys) : RdM M v ys := e ▸ h
theorem ls_fnl {n : Nat} {l : List UInt8} (h : l.length = n) : ls vb l = ns vb n (fun i => l.getD i 0) := by
  have h1 := ls_fn (n := n) (l := l) (by omega)
  rwa [List.take_of_length_le (by rw [ls_len]; omega)] at h1
/-! Guards on what was not carried out. -/
section
variable {P : Program} {ops : Array Oper} {Q : Exit → Act → World → Prop} {n : Fz} {s : Sl} {M : As} {S : As} {fuel : Nat} {listed : Array Bool}
theorem wanted_undef {o : Oper} {a : Act} {j t : Nat} {b : Bool} (hf : Fr n s a) (hg : o.guard = some (j, b)) (hj : (ops[j]?).bind (·.dst) = some t) (hb : lk s t = some undef) : Region.wanted o (yielded ops a.tmps) = false := by
  have h1 := hf.get t _ hb
  simp [Region.wanted, hg, yielded, hj, h1, undef]
theorem hl_nou {o : Oper} {rest : List Oper} {d : Nat} (j t : Nat) (b : Bool) (hg : o.guard = some (j, b)) (hj : (ops[j]?).bind (·.dst) = some t) (hb : lk s t = some undef)
    (hd : o.dst = some d) (hn : Nat.blt d n.n = true) (h : HL P ops Q rest n ((d, undef) :: s) M) : HL P ops Q (o :: rest) n s M := fun a w hf hm =>
  wpList_step fun K hK => by
    have hw := wanted_undef hf hg hj hb
    rw [hw, hd]
    exact hK _ _ (h _ w (hf.put hn undef) hm)
theorem hh_nou {o : Oper} {d : Nat} (i j t : Nat) (b : Bool) (hi : ops[i]? = some o) (hg : o.guard = some (j, b)) (hj : (ops[j]?).bind (·.dst) = some t) (hb : lk s t = some undef) (hd : o.dst = some d) (hn : Nat.blt d n.n = true) (hs : Region.noSelect ops = true) (hf : Region.free .any ops listed i = true) (hr : (Region.ready .any ops listed).contains i = true)
    (hMS : ∀ w, M w → S w) (h : HH P ops Q S fuel (listed.setIfInBounds i true) n ((d, undef) :: s) M) : HH P ops Q S (fuel + 1) listed n s M := fun a w hfr hm =>
  wpAnyH_take hi hs hf hr (fun _ _ _ h => h) (Or.inr ⟨wanted_undef hfr hg hj hb, rfl⟩) (hMS w hm) (by rw [hd]; exact h _ w (hfr.put hn undef) hm)
end
/-! Rows of bytes. -/
section
variable {P : Program} {s : Sl} {o : Oper} {w0 : World} {L : List Own}
theorem rep_ns (n : Nat) : List.replicate n (Value.int .u8 0) = ns vb n (fun _ => (0 : UInt8)) := by
  apply List.ext_getElem?
  intro j
  by_cases hj : j < n
  · rw [ns_nth hj]; simp [hj]
  · rw [List.getElem?_eq_none (by simp; omega), List.getElem?_eq_none (by rw [ns_len]; omega)]
/-- A block whose content is all of a slice is a row. -/
theorem mm_rown {g e n : Nat} {α : Type} {v : α → Value} {f : Nat → α} (i : Nat) (hi : L[i]? = some (.blk g e (ns v n f))) (hn : n ≤ 9223372036854775807) : ∀ w, Mm w0 L w → Mm w0 (L.set i (.row e (.slice (some ⟨g, 0, none⟩) n n) (ns v n f))) w := fun w hm => by
  have h := mm_row (n := n) i hi (take_ns (Nat.le_refl _)) (by rw [ns_len]; omega) (by rw [ns_len]; exact hn) w hm
  rwa [ns_len] at h
theorem rd_nil {M : As} : RdM M (.slice none 0 0) [] := fun _ _ => ⟨none, 0, rfl, Nat.le_refl _, fun j u h => by simp at h⟩
theorem rd_nilb {M : As} : RdM M (.slice none 0 0) (ls vb []) := rd_nil
theorem rdZ {g n : Nat} {t : TypeId} (i : Nat) (h : L[i]? = some (.blk g t (List.replicate n (.int .u8 0)))) : RdM (Mm w0 L) (.slice (some ⟨g, 0, none⟩) n n) (ls vb (List.replicate n 0)) := by
  have e : (ls vb (List.replicate n (0 : UInt8))) = List.replicate n (.int .u8 0) := by simp [ls]
  rw [e]
  exact rdB i h (by simp) (by simp) (Nat.le_refl _)
theorem rdR3 {v : Value} {t n : Nat} {l : List UInt8} (i : Nat) (h : L[i]? = some (.row t v (ls vb l))) (hn : n ≤ l.length) : RdM (Mm w0 L) (slc3 v 0 n n) (ls vb (l.take n)) := by
  have h1 := RdM.slc3 (rdR (w0 := w0) i h) (lo := 0) (hi := n) (mx := n) (Nat.zero_le _) (by rw [ls_len]; exact hn) (Nat.le_refl _)
  rw [ls_sub] at h1
  simpa using h1
theorem rdR2 {v : Value} {t n : Nat} {l : List UInt8} (i : Nat) (h : L[i]? = some (.row t v (ls vb l))) (hn : n ≤ l.length) : RdM (Mm w0 L) (slc v 0 n) (ls vb (l.take n)) := by
  have h1 := RdM.slc (rdR (w0 := w0) i h) (lo := 0) (hi := n) (Nat.zero_le _) (by rw [ls_len]; exact hn)
  rw [ls_sub] at h1
  simpa using h1
theorem rdS2 {M : As} {v : Value} {n : Nat} {l : List UInt8} (h : RdM M v (ls vb l)) (hn : n ≤ l.length) : RdM M (slc v 0 n) (ls vb (l.take n)) := by
  have h1 := RdM.slc h (lo := 0) (hi := n) (Nat.zero_le _) (by rw [ls_len]; exact hn)
  rw [ls_sub] at h1
  simpa using h1
theorem conv_bi (x : UInt8) : IntKind.i64.wrap ((x.toNat : Nat) : Int) = ((x.toNat : Nat) : Int) := wrap_nat64 (by have := x.toNat_lt; omega)
end
end Go.Proofs.YtcdidapkpfnphaaDoor
