/- Words of my own on strings: texts made of bytes, joined, compared, looked into; rows of texts. -/
import Derived.Test.YtcdidapkpfnphaaDoorLibI
import Derived.Laws.BytesArg
import Derived.Laws.StructEq
namespace Go.Proofs.YtcdidapkpfnphaaDoor
open Go.RowKit
def bs (l : List UInt8) : ByteArray := ⟨l.toArray⟩
theorem bs_size (l : List UInt8) : (bs l).size = l.length := by simp [bs, ByteArray.size]
theorem bs_inj {l l' : List UInt8} (h : bs l = bs l') : l = l' := by
  have := congrArg (fun b => b.data.toList) h
  simpa [bs] using this
theorem bs_of (b : ByteArray) : b = bs b.data.toList := by cases b; simp [bs]
theorem bs_app (l l' : List UInt8) : bs l ++ bs l' = bs (l ++ l') := by
  rw [bs_of (bs l ++ bs l')]
  simp [bs]
theorem bs_toList (l : List UInt8) : (bs l).toList = l := by rw [ByteArray.toList_eq]; simp [bs]
/-- A text as a value. -/
def vs (l : List UInt8) : Value := .string (bs l)
section
variable {P : Program} {s : Sl} {M : As} {o : Oper} {w0 : World} {L : List Own}
theorem y_str {v : Value} {l : List UInt8} {x : Operand} {t e u : Nat} (ho : o.op = .convert t u x) (ht : P.underlying t = some (.slice e)) (he : P.underlying e = some (.int .u8)) (hu : P.underlying u = some .string) (hx : ev s x = some v) (hr : RdM M v (ls vb l)) : Yl P s M o (vs l) := fun a ha w hm => by
  obtain ⟨A, c, rfl, hc, hcell⟩ := hr w hm
  have h1 := ha x _ hx
  rw [ls_len] at *
  have key : (convert t u (.slice A l.length c)).run P w = .ok (.string (bs l)) w := by
    cases A with
    | none =>
      have : l = [] := by
        cases l with
        | nil => rfl
        | cons z l => obtain ⟨ad, e, _⟩ := hcell 0 (vb z) rfl; cases e
      subst this
      rw [run_convert_bytes_nil w t e ht he _ _ u hu]
      rfl
    | some ad =>
      have hl : (loadCells ad l.length).run P w = .ok ((l.map fun z => (z.toNat : Int)).map (Value.int .u8)).toArray w := by
        have := run_loadCells_list (P := P) w ad (ls vb l) (fun j v hj => by obtain ⟨ad', e', hcc⟩ := hcell j v hj; injection e' with e'; subst e'; exact hcc)
        rw [ls_len] at this
        rw [this]
        simp [ls, vb, Function.comp_def]
      rw [run_convert_bytes_string w t u e _ _ _ ht he hu, run_bytesToString w ad l.length c _ hl, foldl_push_bytes]
      simp [bs, Function.comp_def]
  simp only [execOp, ho, h1, Sem.run_bind, key, Result.andThen_ok]
  rfl
theorem y_cat {x y : Operand} {t ty : Nat} {p q : List UInt8} (ho : o.op = .binOp .add t x y ty) (hx : ev s x = some (vs p)) (hy : ev s y = some (vs q)) (h : p.length + q.length ≤ 9223372036854775807) : Yl P s M o (vs (p ++ q)) := fun a ha w _ => by
  have hg : (eqGuard .add t x y (vs p) (vs q)).run P w = .ok () w := by unfold eqGuard; rfl
  have hs : ¬ (((bs p).size + (bs q).size : Nat) : Int) > IntKind.i64.max := by rw [bs_size, bs_size]; simp [IntKind.max, IntKind.bits, IntKind.signed]; omega
  simp only [execOp, ho, ha x _ hx, ha y _ hy, Sem.run_bind, hg, Result.andThen_ok]
  simp only [vs, binOp, Op.stringOp, if_neg hs, bs_app]
  rfl
theorem beq_dec (p q : List UInt8) : (p == q) = decide (p = q) := by rw [Bool.eq_iff_iff]; simp
theorem y_eqls {x y : Operand} {t ty : Nat} {p q : List UInt8} (ho : o.op = .binOp .eql t x y ty) (hx : ev s x = some (vs p)) (hy : ev s y = some (vs q)) : Yl P s M o (.bool (decide (p = q))) := fun a ha w _ => by
  have hg : (eqGuard .eql t x y (vs p) (vs q)).run P w = .ok () w := by unfold eqGuard; rfl
  simp only [execOp, ho, ha x _ hx, ha y _ hy, Sem.run_bind, hg, Result.andThen_ok]
  simp only [vs, binOp, Op.stringOp, bs_toList, beq_dec]
  rfl
theorem y_neqs {x y : Operand} {t ty : Nat} {p q : List UInt8} (ho : o.op = .binOp .neq t x y ty) (hx : ev s x = some (vs p)) (hy : ev s y = some (vs q)) : Yl P s M o (.bool (decide (p ≠ q))) := fun a ha w _ => by
  have hg : (eqGuard .neq t x y (vs p) (vs q)).run P w = .ok () w := by unfold eqGuard; rfl
  simp only [execOp, ho, ha x _ hx, ha y _ hy, Sem.run_bind, hg, Result.andThen_ok]
  simp only [vs, binOp, Op.stringOp, bs_toList, beq_dec, ← decide_not]
  rfl
theorem y_lent {l : List UInt8} {x : Operand} {t : TypeId} {ats : Array TypeId} (ho : o.op = .call { callee := .builtin .len, args := #[x], argTypes := ats }) (hats : ats[0]? = some t) (ht : P.underlying t = some .string) (hx : ev s x = some (vs l)) : Yl P s M o (vi l.length) := by
  have h := y_lens (M := M) ho hats ht hx
  rwa [bs_size] at h
theorem y_ixt {x ix : Operand} {t k : Nat} {l : List UInt8} (ho : o.op = .index t x ix) (ht : P.underlying t = some .string) (hx : ev s x = some (vs l)) {kd : IntKind} (hi : ev s ix = some (.int kd ((k : Nat) : Int))) (hk : k < l.length) : Yl P s M o (vb (l.getD k 0)) :=
  y_ixstr ho ht hx hi (by simp [bs, List.getD_eq_getElem?_getD, hk])
/-- A text among texts that are read. -/
theorem y_ldt {v : Value} {l : List (List UInt8)} {x : Operand} {t k : Nat} (ho : o.op = .load t x) (ht : TOne P t) (hx : ev s x = some (sp v k)) (hr : RdM M v (ls vs l)) (hk : k < l.length) : Yl P s M o (vs (l.getD k [])) := y_ldr ho ht hx hr (by simp [ls, hk])
theorem vs_one (l : List (List UInt8)) : ∀ u ∈ ls vs l, u.oneCell' = true := by intro u hu; obtain ⟨x, _, rfl⟩ := List.mem_map.1 hu; rfl
/-- A text appended to texts. -/
theorem e_appt {x y : Operand} {t e : Nat} {v u z : Value} {l l' : List (List UInt8)} {ys : List Value} (i : Nat) (ho : o.op = .call { callee := .builtin .append, args := #[x, y], argTypes := #[t, t] }) (ht : TApp P t e 16 z)
    (hx : ev s x = some v) (hi : L[i]? = some (.row e v (ls vs l))) (hy : ev s y = some u) (hr : RdM (Mm w0 L) u ys) (hys : ys = ls vs l') (hb : l.length + l'.length ≤ 1000000000000) :
    EfI P s (Mm w0 L) o (fun v' : Value => v') (fun v' => Mm w0 (L.set i (.row e v' (ls vs (l ++ l'))))) := by
  subst hys
  have h := e_app (w0 := w0) i ho ht hx hi hy hr (vs_one l') (by rw [ls_len, ls_len]; omega) (by rw [ls_len, ls_len]; omega)
  rwa [ls_app] at h
/-- A row's own value stored. -/
theorem e_str {x y : Operand} {t g q e t' : Nat} {cs xs : List Value} {u : Value} (i j : Nat) (ho : o.op = .store t x y) (hs1 : (P.info? t).map (·.size) = some 1) (hx : ev s x = some (.pointer (some ⟨g, q, none⟩))) (hi : L[i]? = some (.blk g e cs)) (hy : ev s y = some u) (hj : L[j]? = some (.row t' u xs)) (hq : q < cs.length) :
    EfI P s (Mm w0 L) o (fun _ : Unit => undef) (fun _ => Mm w0 (L.set i (.blk g e (cs.set q u)))) := fun a ha w hm => by
  have h1 : u.oneCell' = true := by
    have hok : w.ownsRow w0.heap.size t' 1 u xs.length xs := hm.at_ hj
    rcases hok.2 with ⟨rfl, _⟩ | ⟨_, _, _, rfl, _⟩ <;> rfl
  exact e_st (w0 := w0) i ho hs1 hx hi hy h1 hq a ha w hm
/-- A block that was made with no length is a row. -/
theorem mm_mk {g e c : Nat} {z : Value} (i : Nat) (hi : L[i]? = some (.blk g e (List.replicate c z))) (hc : c ≤ 9223372036854775807) : ∀ w, Mm w0 L w → Mm w0 (L.set i (.row e (.slice (some ⟨g, 0, none⟩) 0 c) [])) w := fun w hm => by
  have h := mm_row (n := 0) i hi (List.take_zero) (Nat.zero_le _) (by rw [List.length_replicate]; exact hc) w hm
  rwa [List.length_replicate] at h
end
end Go.Proofs.YtcdidapkpfnphaaDoor
