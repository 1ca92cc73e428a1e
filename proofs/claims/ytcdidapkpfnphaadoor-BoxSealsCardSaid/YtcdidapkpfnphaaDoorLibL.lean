/- Words of my own: regions whose block stands in one of many states; arrays of words built and copied; rows and their shapes; room made ahead; slices of slices. -/
import Derived.Test.YtcdidapkpfnphaaDoorLibK
import Derived.Lib.AppendZerosOnto
namespace Go.Proofs.YtcdidapkpfnphaaDoor
open Go.RowKit

theorem upd_self {α : Type} {f : Nat → α} {k : Nat} : upd f k (f k) = f := by
  funext i
  unfold upd
  split
  · rename_i h; rw [h]
  · rfl
section
variable {P : Program} {s : Sl} {M : As} {o : Oper} {w0 : World} {L : List Own}
/-- In each of many states the same. -/
theorem yl_ex {ι : Type} {Mf : ι → As} {v : Value} (h : ∀ x, Yl P s (Mf x) o v) : Yl P s (fun w => ∃ x, Mf x w) o v := fun a ha w ⟨x, hm⟩ => h x a ha w hm
/-- A word of a variable of the package. -/
theorem y_ldg {x : Operand} {t g q : Nat} {u : Value} (ho : o.op = .load t x) (ht : TOne P t) (hx : ev s x = some (.pointer (some ⟨g, q, none⟩))) (h : w0.cell? ⟨g, q, none⟩ = some u) : Yl P s (Mm w0 L) o u := fun a ha w hm => by
  have h1 := ha x _ hx
  have h2 : w.cell? ⟨g, q, none⟩ = some u := ((Mm.out hm).low.cell (World.block_lt_of_cell? w0 _ h)).trans h
  simp [execOp, ho, h1, Instr.loadAt, Instr.sureAddr, loadVar, ht.run_isAgg, h2]
theorem fill_one (u : Nat → Value) (h1 : ∀ i, (u i).oneCell' = true) : ∀ (l : List Nat) (cells : Array Value), (∀ i ∈ l, i < cells.size) → Instr.fill (fun i => some (i * 1, 1)) cells (l.map fun i => (i, u i)) = some (l.foldl (fun cs i => cs.setIfInBounds i (u i)) cells)
  | [], _, _ => by simp [Instr.fill]
  | i :: l, cells, h => by
    have hi := h i (by simp)
    have hc := cells_one (h1 i)
    have ih := fill_one u h1 l (cells.setIfInBounds i (u i)) (by intro j hj; simp; exact h j (by simp [hj]))
    rw [List.map_cons, Instr.fill]
    simp only [hc]
    rw [if_neg (by simp; omega)]
    have e : (#[u i].zipIdx.foldl (fun cs (x : Value × Nat) => cs.setIfInBounds (i * 1 + x.2) x.1) cells) = cells.setIfInBounds i (u i) := by simp
    rw [List.foldl_cons]
    exact (congrArg (fun z => Instr.fill (fun i => some (i * 1, 1)) z (l.map fun i => (i, u i))) e).trans ih
theorem fold_range (u : Nat → Value) (n : Nat) (cells : Array Value) (hn : cells.size = n) : ∀ k, k ≤ n → ((List.range k).foldl (fun cs i => cs.setIfInBounds i (u i)) cells).toList = (List.range k).map u ++ cells.toList.drop k
  | 0, _ => by simp
  | k + 1, hk => by
    have ih := fold_range u n cells hn k (by omega)
    rw [List.range_succ, List.foldl_append]
    simp only [List.foldl_cons, List.foldl_nil, Array.toList_setIfInBounds, ih, List.map_append, List.map_cons, List.map_nil]
    have hl : ((List.range k).map u).length = k := by simp
    rw [List.set_append_right _ _ (by omega), hl, Nat.sub_self, List.append_assoc]
    congr 1
    rw [List.drop_eq_getElem_cons (by simpa using (by omega : k < cells.size))]
    simp
/-- An array of numbers, written out. -/
theorem y_bun {t e n : Nat} {α : Type} {v : α → Value} {parts : Array (Nat × Operand)} (f : Nat → α) (h1 : ∀ x, (v x).oneCell' = true) (ho : o.op = .build t parts) (ht : TArr P t n e n) (he : TOne P e) (z : α) (hz : TZero P t (ns v n (fun _ => z)))
    (hx : parts.toList.map (fun p => (ev s p.2).map (p.1, ·)) = ((List.range n).map fun i => (i, v (f i))).map some) : Yl P s M o (.agg (ns v n f).toArray) := by
  obtain ⟨z', hz1, hz2⟩ := hz
  refine y_build (vs := ((List.range n).map fun i => (i, v (f i))).toArray) ho (fun w => ?_) (by simpa using hx)
  have hz3 : z'.cells = (ns v n (fun _ => z)).toArray := Array.toList_inj.1 (by rw [hz2])
  have hzz : (zeroValue t).run P w = .ok z' w := by
    cases hq : P.info? t with
    | none => simp [hq] at hz1
    | some i => simp [hq] at hz1; simp [zeroValue, typeInfo, hq, hz1]
  have hs : (ns v n (fun _ => z)).toArray.size = n := ns_size
  have hf := fill_one (fun i => v (f i)) (fun i => h1 (f i)) (List.range n) (ns v n (fun _ => z)).toArray (by intro i hi; rw [hs]; exact List.mem_range.1 hi)
  have hr := fold_range (fun i => v (f i)) n (ns v n (fun _ => z)).toArray hs n (Nat.le_refl n)
  have hr2 : (List.range n).foldl (fun cs i => cs.setIfInBounds i (v (f i))) (ns v n (fun _ => z)).toArray = (ns v n f).toArray := by
    apply Array.toList_inj.1
    rw [hr, List.drop_eq_nil_of_le (by simp [ns_len]), List.append_nil]
    rfl
  rw [hr2] at hf
  simp only [Instr.build, Sem.run_bind, hzz, Result.andThen_ok, run_underlying ht.1, run_sizeOf_of he.2, hz3, hf]
  rfl
theorem vw_1 (x : UInt32) : (vw x).oneCell' = true := rfl
theorem vb_1 (x : UInt8) : (vb x).oneCell' = true := rfl
theorem vq_1 (x : UInt64) : (vq x).oneCell' = true := rfl
/-- Words copied into words. -/
theorem e_cpw {x y : Operand} {t t' e g q n c m N e' : Nat} {u : Value} {f h : Nat → UInt32} (i : Nat) (ho : o.op = .call { callee := .builtin .copy, args := #[x, y], argTypes := #[t, t'] }) (ht : TSlice P t e)
    (hx : ev s x = some (.slice (some ⟨g, q, none⟩) n c)) (hi : L[i]? = some (.blk g e' (ns vw N f))) (hy : ev s y = some u) (hr : RdM (Mm w0 L) u (ns vw m h)) (hm : m ≤ n) (hq : q + n ≤ N) :
    EfI P s (Mm w0 L) o (fun _ : Unit => vi m) (fun _ => Mm w0 (L.set i (.blk g e' (ns vw N (fun i => if q ≤ i ∧ i < q + m then h (i - q) else f i))))) := by
  have h1 := e_copy (w0 := w0) (cs' := ns vw N (fun i => if q ≤ i ∧ i < q + m then h (i - q) else f i)) i ho ht hx hi hy hr (ns_onew _ _) (by rw [ns_len]; exact hq) (by rw [take_ns hm]; exact ns_put (by omega))
  rw [take_ns hm, ns_len] at h1
  exact h1
end
/-! Shapes. -/
theorem Rd.one {w : World} {v : Value} {xs : List Value} (h : Rd w v xs) : v.oneCell' = true := by obtain ⟨A, c, rfl, _⟩ := h; rfl
theorem Rd.shape {w : World} {v : Value} {xs : List Value} (h : Rd w v xs) : ∃ A c, v = .slice A xs.length c ∧ xs.length ≤ c := by obtain ⟨A, c, h1, h2, _⟩ := h; exact ⟨A, c, h1, h2⟩
section
variable {P : Program} {n : Fz} {s : Sl} {M S : As} {Q : Exit → Act → World → Prop} {ops : Array Oper} {fuel : Nat} {listed : Array Bool}
theorem HH.pre {p : Prop} (hp : ∀ w, M w → p) (h : p → HH P ops Q S fuel listed n s M) : HH P ops Q S fuel listed n s M := fun a w hf hm => h (hp w hm) a w hf hm
theorem HQ.pre {e : Exit} {p : Prop} (hp : ∀ w, M w → p) (h : p → HQ Q e n s M) : HQ Q e n s M := fun a w hf hm => h (hp w hm) a w hf hm
theorem HH.mem {M' : As} (hM : ∀ w, M w → M' w) (h : HH P ops Q S fuel listed n s M') : HH P ops Q S fuel listed n s M := fun a w hf hm => h a w hf (hM w hm)
end
theorem RdM.one {M : As} {v : Value} {xs : List Value} (h : RdM M v xs) : ∀ w, M w → v.oneCell' = true := fun w hm => (h w hm).one
/-- How many bytes there are, is what the slice tells. -/
theorem rd_len {w : World} {A : Option Addr} {n c : Nat} {xs : List Value} (h : Rd w (.slice A n c) xs) : xs.length = n := by obtain ⟨A', c', e, _⟩ := h; injection e with _ e _; exact e.symm
section
variable {P : Program} {s : Sl} {M : As} {o : Oper} {w0 : World} {L : List Own}
theorem y_cap {A : Option Addr} {n c : Nat} {x : Operand} {t e : TypeId} {ats : Array TypeId} (ho : o.op = .call { callee := .builtin .cap, args := #[x], argTypes := ats }) (hats : ats[0]? = some t) (ht : P.underlying t = some (.slice e)) (hx : ev s x = some (.slice A n c)) : Yl P s M o (vi c) := fun a ha w hm => by
  have h1 := ha x _ hx
  simp [execOp, ho, resolve, invoke, builtin, Builtin.cap_, h1, hats, run_underlying ht, goInt]
/-- The head of a slice over a block of the call's own. -/
theorem y_slcB {x z : Operand} {t e g q l c hi : Nat} (ho : o.op = .slice t x none (some z) none) (ht : TSlice P t e) (hx : ev s x = some (.slice (some ⟨g, q, none⟩) l c)) (hz : ev s z = some (vi hi)) (h1 : hi ≤ c) (h0 : 0 < c) : Yl P s M o (.slice (some ⟨g, q, none⟩) hi c) := fun a ha w hm => by
  have e1 := ha x _ hx
  have e2 := ha z _ hz
  have h3 : 0 ≤ (hi : Int) ∧ (hi : Int) ≤ c := by omega
  have h4 : ¬ c = 0 := by omega
  simp only [execOp, ho, Instr.sliceAt, e1, e2, Option.map_some, Option.map_none, Sem.run_bind, run_underlying ht.1, Result.andThen_ok, Instr.slice, Instr.sliceBounds, Sem.run_pure, Instr.sliceBound, asIntOf, if_pos h3, run_sizeOf_of ht.2, Nat.mul_one, Int.toNat_natCast, Nat.sub_zero, if_neg h4, Option.map_some, addr_add, Nat.add_zero]
/-- The tail of one. -/
theorem y_slcT {x y : Operand} {t e g q l c lo : Nat} (ho : o.op = .slice t x (some y) none none) (ht : TSlice P t e) (hx : ev s x = some (.slice (some ⟨g, q, none⟩) l c)) (hy : ev s y = some (vi lo)) (h1 : lo ≤ l) (h0 : lo < c) : Yl P s M o (.slice (some ⟨g, q + lo, none⟩) (l - lo) (c - lo)) := fun a ha w hm => by
  have e1 := ha x _ hx
  have e2 := ha y _ hy
  have h3 : 0 ≤ (lo : Int) ∧ (lo : Int) ≤ l := by omega
  have h4 : ¬ c = lo := by omega
  simp only [execOp, ho, Instr.sliceAt, e1, e2, Option.map_some, Option.map_none, Sem.run_bind, run_underlying ht.1, Result.andThen_ok, Instr.slice, Instr.sliceBounds, Sem.run_pure, Instr.sliceBound, asIntOf, if_pos h3, run_sizeOf_of ht.2, Nat.mul_one, Int.toNat_natCast, if_neg h4, Option.map_some, addr_add]
theorem zero_one (n : Nat) (z : Value) : Builtin.zeroCells #[z] n = (List.replicate n z).toArray := by
  apply Array.toList_inj.1
  apply List.ext_getElem
  · simp [Builtin.zeroCells]
  · intro i h1 h2
    simp [Builtin.zeroCells, Nat.mod_one]
/-- Room made ahead of a slice that holds nothing: 'append' of a make to nil. -/
theorem e_grow {x y : Operand} {t tn e k : Nat} (ho : o.op = .call { callee := .builtin .append, args := #[x, y], argTypes := #[t, tn] }) (ht : TApp P t e 1 (.int .u8 0)) (htn : P.underlying tn = some (.int .i64))
    (hx : ev s x = some (.slice none 0 0)) (hy : ev s y = some (vi k)) (h0 : 0 < k) (hk : k ≤ 70368744177664) :
    EfI P s (Mm w0 L) o (fun y : {p : Nat × Nat // k ≤ p.2 ∧ p.2 ≤ 9223372036854775807} => .slice (some ⟨y.1.1, 0, none⟩) k y.1.2) (fun y => Mm w0 (.blk y.1.1 e (List.replicate y.1.2 (.int .u8 0)) :: L)) := ef_run fun a ha w hm => by
  obtain ⟨ht, hinfo, hz⟩ := ht
  obtain ⟨i0, hi0, hzz⟩ := Option.map_eq_some_iff.1 hinfo
  simp only [Prod.mk.injEq] at hzz
  obtain ⟨hz0, hz1, hz2⟩ := hzz
  have e1 := ha x _ hx
  have e2 := ha y _ hy
  have hfc : (Builtin.firstCells i0.size 0 (.slice none 0 0)).run P w.drew = .ok ([] : List Value).toArray w.drew := run_firstCells_none w.drew i0.size 0 0 0
  have hrun := Go.Lib.run_append_grow_zeros (P := P) w t tn o.type e i0 (.int .u8 0) .i64 .i64 ht htn hi0 hz0 none 0 0 [] hfc k h0 (by omega) (by omega) (by omega) (by rw [hz2]; omega)
    (growslice_fits (by omega) (by rw [hz2]; omega))
  have hge := grownCap_ge w (0 + k) 0 e
  have hle := grownCap_le_maxLen w (0 + k) 0 e (by simp only [maxLen]; omega)
  simp only [maxLen] at hle
  refine ⟨⟨(w.heap.size, grownCap w (0 + k) 0 e), by simpa using hge, by simpa using hle⟩, w.drew.alloc (.cells (#[] ++ Builtin.zeroCells (#[.int .u8 0] : Array Value) k ++ Builtin.zeroCells (#[.int .u8 0] : Array Value) (grownCap w (0 + k) 0 e - (0 + k))) e), ?_, ?_⟩
  · simp only [execOp, ho, resolve, invoke, builtin, List.map_toArray, List.map_cons, List.map_nil, e1, e2, Sem.run_bind, Sem.run_pure, Result.andThen_ok, hrun]
    simp
    rfl
  · have hc : (#[] ++ Builtin.zeroCells (#[.int .u8 0] : Array Value) k ++ Builtin.zeroCells (#[.int .u8 0] : Array Value) (grownCap w (0 + k) 0 e - (0 + k))) = (List.replicate (grownCap w (0 + k) 0 e) (.int .u8 0) : List Value).toArray := by
      rw [zero_one, zero_one]
      apply Array.toList_inj.1
      simp only [Array.toList_append, List.nil_append, List.append_assoc]
      simp only [Array.append_empty, Array.empty_append, Array.toList_append, List.replicate_append_replicate]
      congr 1
      omega
    rw [hc]
    exact Mem.add (Mem.drew hm) e _
end
/-! Parts of bytes that are read. -/
theorem rdQ2 {M : As} {v : Value} {l : List UInt8} (h : RdM M v (ls vb l)) {lo hi n : Nat} (e : hi = lo + n) (h2 : hi ≤ l.length) : RdM M (slc v lo hi) (ls vb ((l.drop lo).take n)) := by
  have h1 := RdM.slc h (lo := lo) (hi := hi) (by omega) (by rw [ls_len]; exact h2)
  rwa [ls_sub, show hi - lo = n from by omega] at h1
theorem rdQ0 {M : As} {v : Value} {l : List UInt8} (h : RdM M v (ls vb l)) {n : Nat} (hn : n ≤ l.length) : RdM M (slc v 0 n) (ls vb (l.take n)) := rdS2 h hn
theorem rdQ1 {M : As} {v : Value} {l : List UInt8} (h : RdM M v (ls vb l)) {lo hi : Nat} (h1 : lo ≤ hi) (h2 : hi = l.length) : RdM M (slc v lo hi) (ls vb (l.drop lo)) := by
  subst h2
  have h3 := RdM.slc h (lo := lo) (hi := l.length) h1 (by rw [ls_len]; omega)
  rw [ls_sub, List.take_of_length_le (by simp)] at h3
  exact h3
theorem rdQ3 {M : As} {v : Value} {l : List UInt8} (h : RdM M v (ls vb l)) {n : Nat} (hn : n ≤ l.length) : RdM M (slc3 v 0 n n) (ls vb (l.take n)) := by
  have h1 := RdM.slc3 h (lo := 0) (hi := n) (mx := n) (Nat.zero_le _) (by rw [ls_len]; exact hn) (Nat.le_refl _)
  rw [ls_sub] at h1
  simpa using h1
section
variable {w0 : World} {L : List Own}
/-- A block that was made is a row, with its room said. -/
theorem mm_rowc {g e n c : Nat} {cs xs : List Value} (i : Nat) (hi : L[i]? = some (.blk g e cs)) (hx : cs.take n = xs) (hcl : cs.length = c) (hn : n ≤ c) (hc : c ≤ 9223372036854775807) : ∀ w, Mm w0 L w → Mm w0 (L.set i (.row e (.slice (some ⟨g, 0, none⟩) n c) xs)) w := by
  subst hcl
  exact mm_row i hi hx hn hc
end
theorem mm_nilb {w0 : World} {L : List Own} (t : Nat) : ∀ w, Mm w0 L w → Mm w0 (.row t (.slice none 0 0) (ls vb []) :: L) w := mm_nil t
theorem Rd.shapeb {w : World} {v : Value} {l : List UInt8} (h : Rd w v (ls vb l)) : ∃ A c, v = .slice A l.length c ∧ l.length ≤ c := by obtain ⟨A, c, h1, h2, _⟩ := h; rw [ls_len] at h1 h2; exact ⟨A, c, h1, h2⟩
theorem pad_take (z : Nat) : (ns vb (1 + z + 8) (upd (fun _ => (0 : UInt8)) (0 + 0) 128)).take (1 + z) = ls vb (128 :: List.replicate z 0) := by
  apply List.ext_getElem?
  intro j
  by_cases hj : j < 1 + z
  · rw [List.getElem?_take, if_pos hj, ns_nth (by omega)]
    cases j with
    | zero => rfl
    | succ j => simp [ls, upd, show j < z from by omega]
  · rw [List.getElem?_eq_none (by simp [ns_len]; omega), List.getElem?_eq_none (by simp [ls]; omega)]
/-! Parts one behind the other. -/
abbrev Pt := Value × List UInt8
def pz : Pt := (.slice none 0 0, [])
def catL (l : List Pt) : List UInt8 := (l.map Prod.snd).flatten
def catN (l : List Pt) (k : Nat) : List UInt8 := catL (l.take k)
theorem catN_next {l : List Pt} {k : Nat} (h : k < l.length) : catN l k ++ (l.getD k pz).2 = catN l (k + 1) := by
  have e : l.take (k + 1) = l.take k ++ [l.getD k pz] := by
    rw [List.take_add_one]
    simp [List.getD_eq_getElem?_getD, h]
  rw [catN, catN, e, catL, catL, List.map_append, List.flatten_append]
  simp
theorem catN_all {l : List Pt} {k : Nat} (h : l.length ≤ k) : catN l k = catL l := by rw [catN, List.take_of_length_le h]
theorem catN_le (l : List Pt) (k : Nat) : (catN l k).length ≤ (catL l).length := by
  have e : catL l = catN l k ++ catL (l.drop k) := by
    rw [catN, catL, catL, catL, ← List.flatten_append, ← List.map_append, List.take_append_drop]
  rw [e, List.length_append]
  omega
theorem pt_mem {l : List Pt} {k : Nat} (h : k < l.length) : l.getD k pz ∈ l := by
  rw [List.getD_eq_getElem?_getD, List.getElem?_eq_getElem h]
  exact List.getElem_mem h
theorem pt_nth {l : List Pt} {k : Nat} (h : k < l.length) : (ls Prod.fst l)[k]? = some (l.getD k pz).1 := by simp [ls, List.getD_eq_getElem?_getD, h]
end Go.Proofs.YtcdidapkpfnphaaDoor
