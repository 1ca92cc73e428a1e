/- Words of my own: calls of functions that hold variables of their maker; room that the runtime gives; bytes repeated; rows that are only read. -/
import Derived.Test.YtcdidapkpfnphaaDoorLibL
import Derived.Lib.MakeNoZero
import Derived.Laws.Externs
namespace Go.Proofs.YtcdidapkpfnphaaDoor
open Go.RowKit
section
variable {P : Program} {s : Sl} {M : As} {o : Oper} {w0 : World} {L : List Own}
/-- A call of a function that holds what its maker gave it. -/
theorem e_callC {f : Nat} {c : Operand} {xs : Array Operand} {ats : Array TypeId} {args caps : Array Value} {ι : Type} {g : ι → Value} {R : ι → List Own} (ho : o.op = .call { callee := .value c, args := xs, argTypes := ats }) (hf : IsFn P f)
    (hc : ev s c = some (.func (.func f) #[] caps)) (h : ∀ w, Mm w0 L w → Ct P f args w g R) (hx : xs.toList.map (ev s) ++ caps.toList.map some = args.toList.map some) : EfI P s (Mm w0 L) o g (fun y => Mm w0 (R y ++ L)) :=
  e_callM ho hf hc (fun w hm => (h w hm).mono fun e w' ⟨y, he, hy⟩ => ⟨y, he, Mem.frame hm hy⟩) hx
/-- What a block of the call's own holds. -/
theorem blk_cell {w : World} {g t q : Nat} {cs : List Value} {u : Value} (hm : Mm w0 L w) (i : Nat) (hi : L[i]? = some (.blk g t cs)) (hu : cs[q]? = some u) : w.cell? ⟨g, q, none⟩ = some u := by
  rw [cell_of_row w g q cs.toArray t (0, 0) (Mem.at_ hm hi).2]
  simpa using hu
/-- Room that the runtime gives, of whatever bytes. -/
theorem e_nz {c x : Operand} {ats : Array TypeId} {f n t e : Nat} {ps : Array TypeId} {fn : Func} (ho : o.op = .call { callee := .value c, args := #[x], argTypes := ats }) (hf : P.funcs[f]? = some fn) (hname : (fn.name == "runtime.NumGoroutine") = false) (hb : fn.body.isNone = true) (hn : Extern.findNext fn = none) (he : Extern.find fn = some (Extern.BytealgMakeNoZero.makeNoZero ps #[t])) (ht : P.underlying t = some (.slice e))
    (hc : ev s c = some (.func (.func f) #[] #[])) (hx : ev s x = some (vi n)) (hn0 : n ≤ 281474976710656) :
    EfI P s (Mm w0 L) o (fun y : {p : Nat × List Value // n ≤ p.2.length} => .slice (some ⟨y.1.1, 0, none⟩) n y.1.2.length) (fun y => Mm w0 (.blk y.1.1 e y.1.2 :: L)) := ef_run fun a ha w hm => by
  obtain ⟨cs, hrun, hle, _⟩ := Go.Lib.run_makeNoZero (P := P) w ps t e ht n hn0
  have e1 := ha c _ hc
  have e2 := ha x _ hx
  refine ⟨⟨(w.heap.size, cs.toList), by simpa using hle⟩, w.drew.drew.alloc (.cells cs e), ?_, ?_⟩
  · simp only [execOp, ho, resolve, e1, Deferred.ofValue, Sem.run_bind, Sem.run_pure, Result.andThen_ok, invoke, Array.empty_append, List.map_toArray, List.map_cons, List.map_nil, e2, Array.append_empty]
    rw [run_callFunc_extern hf hname hb hn he, hrun]
    simp
  · have := Mem.add (Mem.drew (Mem.drew hm)) e cs.toList
    simpa [Mm] using this
/-- Part of a block, as a slice whose room is said. -/
theorem y_slcB3 {x z m : Operand} {t e g q l c hi mx : Nat} (ho : o.op = .slice t x none (some z) (some m)) (ht : TSlice P t e) (hx : ev s x = some (.slice (some ⟨g, q, none⟩) l c)) (hz : ev s z = some (vi hi)) (hm : ev s m = some (vi mx)) (h1 : hi ≤ mx) (h2 : mx ≤ c) (h0 : 0 < mx) : Yl P s M o (.slice (some ⟨g, q, none⟩) hi mx) := fun a ha w _ => by
  have e1 := ha x _ hx
  have e2 := ha z _ hz
  have e3 := ha m _ hm
  have h3 : 0 ≤ (mx : Int) ∧ (mx : Int) ≤ c := by omega
  have h4 : 0 ≤ (hi : Int) ∧ (hi : Int) ≤ mx := by omega
  have h5 : ¬ mx = 0 := by omega
  simp only [execOp, ho, Instr.sliceAt, e1, e2, e3, Option.map_some, Option.map_none, Sem.run_bind, run_underlying ht.1, Result.andThen_ok, Instr.slice, Instr.sliceBounds, Sem.run_pure, Instr.sliceBound, asIntOf, if_pos h3, if_pos h4, run_sizeOf_of ht.2, Nat.mul_one, Int.toNat_natCast, Nat.sub_zero, if_neg h5, Option.map_some, addr_add, Nat.add_zero]
/-- Bytes copied behind themselves. -/
theorem e_repc {x y : Operand} {t t' e g k c1 c2 e' N : Nat} {u : Value} {R : List Value} (i : Nat) (ho : o.op = .call { callee := .builtin .copy, args := #[x, y], argTypes := #[t, t'] }) (ht : TSlice P t e)
    (hx : ev s x = some (.slice (some ⟨g, 0 + k, none⟩) (N - k) c1)) (hi : L[i]? = some (.blk g e' (List.replicate k u ++ R))) (hy : ev s y = some (.slice (some ⟨g, 0, none⟩) (min k N) c2)) (hu : u.oneCell' = true) (hk : k < N) (hR : N ≤ k + R.length) (hc : min k N ≤ c2) :
    EfI P s (Mm w0 L) o (fun _ : Unit => vi (min k (N - k))) (fun _ => Mm w0 (L.set i (.blk g e' (List.replicate (k + min k (N - k)) u ++ R.drop (min k (N - k)))))) := by
  have hr : RdM (Mm w0 L) (.slice (some ⟨g, 0, none⟩) (min k N) c2) (List.replicate (min k N) u) := rdB i hi (by rw [List.drop_zero, List.take_append_of_le_length (by simp; omega), List.take_replicate, show min (min k N) k = min k N from by omega]) (by simp) hc
  have h1 := e_copy (w0 := w0) (cs' := List.replicate (k + min k (N - k)) u ++ R.drop (min k (N - k))) i ho ht hx hi hy hr (fun v hv => by rw [List.eq_of_mem_replicate hv]; exact hu) (by simp; omega) (by
    rw [List.take_replicate, List.length_replicate, Nat.zero_add, show min (N - k) (min k N) = min k (N - k) from by omega]
    rw [List.take_append_of_le_length (by simp), List.take_replicate, Nat.min_self, List.replicate_append_replicate, List.drop_append, List.drop_eq_nil_of_le (by simp), List.nil_append, List.length_replicate, Nat.add_sub_cancel_left])
  rw [List.take_replicate, List.length_replicate, show min (N - k) (min k N) = min k (N - k) from by omega] at h1
  exact h1
end
/-- A block that is only read from here on. -/
theorem mm_ro {w0 : World} {L : List Own} {g e n c : Nat} {cs xs : List Value} (i : Nat) (hi : L[i]? = some (.blk g e cs)) (hx : cs.take n = xs) (hn : xs.length = n) (hc : n ≤ c) : ∀ w, Mm w0 L w → Mm w0 (L.set i (.ro g (.slice (some ⟨g, 0, none⟩) n c) xs)) w := fun w hm => by
  have hok := Mem.at_ hm hi
  refine Mem.turn hm hi (fun _ _ _ _ => rfl) hm.out.low ?_ (.inl rfl)
  refine ⟨hok.1, (Array.getElem?_eq_some_iff.1 hok.2).1, some ⟨g, 0, none⟩, c, by rw [hn], by omega, fun j u hu => ⟨_, rfl, ?_, ?_⟩⟩
  · rfl
  · subst hx
    have hj : j < n := by have := (List.getElem?_eq_some_iff.1 hu).1; simp at this; omega
    rw [List.getElem?_take, if_pos hj] at hu
    rw [addr_add, Nat.zero_add, cell_of_row w g j cs.toArray e (0, 0) hok.2]
    simpa using hu
section
variable {P : Program} {s : Sl} {M : As} {o : Oper} {w0 : World} {L : List Own}
theorem conv_qn {n : Nat} (h : n ≤ 9223372036854775807) : IntKind.i64.wrap ((UInt64.ofNat n).toNat : Int) = ((n : Nat) : Int) := by
  have e : (UInt64.ofNat n).toNat = n := by rw [UInt64.toNat_ofNat']; exact Nat.mod_eq_of_lt (by omega)
  rw [e]
  exact wrap_nat64 h
/-- A slice held against nil. -/
theorem y_eqnil {t ty e : Nat} {A : Option Addr} {n c : Nat} {x y : Operand} (ho : o.op = .binOp .eql t x y ty) (ht : P.underlying t = some (.slice e)) (hx : ev s x = some (.slice A n c)) (hy : ev s y = some (.slice none 0 0)) : Yl P s M o (.bool A.isNone) := fun a ha w _ => by
  have hg : (eqGuard .eql t x y (.slice A n c) (.slice none 0 0)).run P w = .ok () w := by unfold eqGuard; rfl
  simp only [execOp, ho, ha x _ hx, ha y _ hy, Sem.run_bind, hg, Result.andThen_ok, binOp, Op.equal, Op.maxDepth]
  have h1 : (Op.equalIn 10000 t (.slice A n c) (.slice none 0 0)).run P w = .ok A.isNone w := by
    unfold Op.equalIn
    simp only [Sem.run_bind, run_underlying ht, Result.andThen_ok]
    cases A <;> rfl
  rw [h1]
  rfl
theorem beq_self (b : Bool) : (b == b) = true := beq_self_eq_true b
end
end Go.Proofs.YtcdidapkpfnphaaDoor
