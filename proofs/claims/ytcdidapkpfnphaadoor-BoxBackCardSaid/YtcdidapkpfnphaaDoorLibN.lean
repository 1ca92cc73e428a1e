/- Words of my own: texts turned to bytes, texts behind bytes, slices whose length is said, copies. -/
import Derived.Test.YtcdidapkpfnphaaDoorLibM
import Derived.Lib.ConvBytes
namespace Go.Proofs.YtcdidapkpfnphaaDoor
open Go.RowKit
open Go.Lib (strCells strCells_length run_append_own_string)
section
variable {P : Program} {s : Sl} {M : As} {o : Oper} {w0 : World} {L : List Own}
theorem strCells_bs (l : List UInt8) : strCells (bs l) = ls vb l := by simp [strCells, bs, ls, vb]
/-- append(xs, s...) of a text: what else was owned is let go. -/
theorem e_appsb {x y : Operand} {t u e : Nat} {v : Value} {l sl : List UInt8} (i : Nat) (ho : o.op = .call { callee := .builtin .append, args := #[x, y], argTypes := #[t, u] }) (ht : TApp P t e 1 (.int .u8 0)) (hu : P.underlying u = some .string)
    (hx : ev s x = some v) (hi : L[i]? = some (.row e v (ls vb l))) (hy : ev s y = some (vs sl)) (hl : l.length + sl.length ≤ 140737488355328) :
    EfI P s (Mm w0 L) o (fun v' : Value => v') (fun v' => Mm w0 [.row e v' (ls vb (l ++ sl))]) := by
  have h := e_apps (w0 := w0) i ho ht hu hx hi hy (by rw [ls_len, bs_size]; exact hl)
  rwa [strCells_bs, ls_app] at h
/-- The bytes of a text, in a slice of their own. -/
theorem e_s2b {x : Operand} {t u e : Nat} {d : TypeDesc} {sl : List UInt8} (ho : o.op = .convert t u x) (ht : P.underlying t = some d) (hu : P.underlying u = some (.slice e)) (he : P.underlying e = some (.int .u8)) (hx : ev s x = some (vs sl)) :
    EfI P s (Mm w0 L) o (fun y : Nat × Nat => .slice (some ⟨y.1, 0, none⟩) sl.length y.2) (fun y => Mm w0 (.ro y.1 (.slice (some ⟨y.1, 0, none⟩) sl.length y.2) (ls vb sl) :: L)) := ef_run fun a ha w hm => by
  have e1 := ha x _ hx
  have hr := Go.Lib.run_convert_string_bytes (P := P) w t u e (bs sl) ht hu he
  refine ⟨(w.heap.size, grownCap w sl.length 0 e), Go.Lib.bytesWorld w e (bs sl), ?_, ?_⟩
  · rw [bs_size] at hr
    simp only [execOp, ho, e1, Sem.run_bind, vs, hr, Result.andThen_ok]
    rfl
  · have hs := Go.Lib.bytesWorld_size w e (bs sl)
    have hge := grownCap_ge w sl.length 0 e
    have hlow : Below w0.heap.size w0 (Go.Lib.bytesWorld w e (bs sl)) := (Mm.out hm).low.trans ⟨rfl, rfl, rfl, by rw [hs]; omega, fun k hk => Go.Lib.bytesWorld_at_old w e (bs sl) k (Nat.lt_of_lt_of_le hk (Mm.out hm).size)⟩
    refine ⟨hlow, fun z hz => ?_, List.pairwise_cons.2 ⟨fun y hy b hb => ?_, (Mm.out hm).apart⟩⟩
    · rcases List.mem_cons.1 hz with rfl | hz
      · refine ⟨(Mm.out hm).size, by rw [hs]; omega, _, _, by rw [ls_len], by rw [ls_len]; exact hge, fun j u hu => ⟨_, rfl, rfl, ?_⟩⟩
        have hj : j < sl.length := by have := (List.getElem?_eq_some_iff.1 hu).1; rwa [ls_len] at this
        rw [addr_add, Nat.zero_add, Go.Lib.bytesWorld_cell w e (bs sl) j (by rw [bs_size]; exact hj)]
        simp [ls, hj] at hu
        rw [← hu]
        simp [bs, List.getD_eq_getElem?_getD, hj]
      · exact Own.ok_keep ((Mm.out hm).ok z hz) fun b hb => Go.Lib.bytesWorld_at_old w e (bs sl) b (Own.ok_lt ((Mm.out hm).ok z hz) hb).2
    · simp only [Own.at_, Option.some.injEq] at hb
      subst hb
      intro hy'
      have := (Own.ok_lt ((Mm.out hm).ok y hy) hy').2
      omega
theorem rdW3 {v : Value} {t n : Nat} {l : List UInt8} (i : Nat) (h : L[i]? = some (.row t v (ls vb l))) (hn : l.length = n) : RdM (Mm w0 L) (slc3 v 0 n n) (ls vb l) := by
  have h1 := rdR3 (w0 := w0) i h (n := n) (by omega)
  rwa [List.take_of_length_le (by omega)] at h1
theorem rdW2 {v : Value} {t n : Nat} {l : List UInt8} (i : Nat) (h : L[i]? = some (.row t v (ls vb l))) (hn : l.length = n) : RdM (Mm w0 L) (slc v 0 n) (ls vb l) := by
  have h1 := rdR2 (w0 := w0) i h (n := n) (by omega)
  rwa [List.take_of_length_le (by omega)] at h1
/-- A slice that is a row, or all of one of 32 bytes. -/
def Cut (o v : Value) (l : List UInt8) : Prop := o = v ∨ (l.length = 32 ∧ (o = slc3 v 0 32 32 ∨ o = slc v 0 32))
theorem rdC {o v : Value} {t : Nat} {l : List UInt8} (i : Nat) (h : L[i]? = some (.row t v (ls vb l))) (hc : Cut o v l) : RdM (Mm w0 L) o (ls vb l) := by
  rcases hc with rfl | ⟨hl, rfl | rfl⟩
  · exact rdR i h
  · exact rdW3 i h hl
  · exact rdW2 i h hl
/-- A block of no cells is a row. -/
theorem mm_row0 {g e : Nat} (i : Nat) (hi : L[i]? = some (.blk g e [])) : ∀ w, Mm w0 L w → Mm w0 (L.set i (.row e (.slice (some ⟨g, 0, none⟩) 0 0) (ls vb []))) w := mm_rowc i hi rfl rfl (Nat.le_refl _) (by omega)
end
theorem rd_none {w : World} {A : Option Addr} {n c : Nat} {l : List UInt8} (h : Rd w (.slice A n c) (ls vb l)) (hA : A.isNone = true) : l = [] ∧ n = 0 := by
  have hn := rd_len h
  obtain ⟨A', c', e, hc, hx⟩ := h
  injection e with e1 _ _
  subst e1
  cases l with
  | nil => exact ⟨rfl, by simpa [ls] using hn.symm⟩
  | cons x l =>
    obtain ⟨ad, e, _⟩ := hx 0 (vb x) rfl
    rw [e] at hA
    cases hA
section
variable {P : Program} {s : Sl} {M : As} {o : Oper}
theorem y_mini {x y : Operand} {ats : Array TypeId} {p q : Int} (ho : o.op = .call { callee := .builtin .min, args := #[x, y], argTypes := ats }) (hx : ev s x = some (.int .i64 p)) (hy : ev s y = some (.int .i64 q)) : Yl P s M o (.int .i64 (min p q)) := fun a ha w _ => by
  have e : (if q < p then q else p) = min p q := by split <;> omega
  simp [execOp, ho, resolve, invoke, builtin, Builtin.min_, Builtin.min2, ha x _ hx, ha y _ hy, e]
theorem y_maxn {x y : Operand} {ats : Array TypeId} {p q : Nat} (ho : o.op = .call { callee := .builtin .max, args := #[x, y], argTypes := ats }) (hx : ev s x = some (vi p)) (hy : ev s y = some (vi q)) : Yl P s M o (vi (max p q)) := by
  have h := y_maxi (P := P) (M := M) ho hx hy
  rwa [show max (p : Int) (q : Int) = ((max p q : Nat) : Int) from by omega] at h
end
theorem HO.pre {P : Program} {ops : Array Oper} {Q : Exit → Act → World → Prop} {S M : As} {fuel i : Nat} {listed : Array Bool} {n : Fz} {s : Sl} {p : Prop} (hp : ∀ w, M w → p) (h : p → HO P ops Q S fuel listed n s M i) : HO P ops Q S fuel listed n s M i := fun a w hf hm => h (hp w hm) a w hf hm
end Go.Proofs.YtcdidapkpfnphaaDoor
