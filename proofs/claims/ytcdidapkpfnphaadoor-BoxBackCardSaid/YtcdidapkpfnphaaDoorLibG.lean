/- Words of my own: '==' between arrays of numbers, strings that are read, slices of strings. -/
import Derived.Test.YtcdidapkpfnphaaDoorLibF
namespace Go.Proofs.YtcdidapkpfnphaaDoor
open Go.RowKit
section
variable {P : Program}
theorem run_eqArr (d t n e sz : Nat) (xs ys : Array Value) (b : Nat → Bool) (ht : P.underlying t = some (.array n e)) (hs : (P.info? e).map (·.size) = some sz)
    (h : ∀ i, i < n → ∀ w, (do let x ← part e xs (i * sz); let y ← part e ys (i * sz); Op.equalIn d e x y : Sem Bool).run P w = .ok (b i) w) (w : World) :
    (Op.equalIn (d + 1) t (.agg xs) (.agg ys)).run P w = .ok ((List.range n).all b) w := by
  simp only [Op.equalIn, Sem.run_bind, run_underlying ht, Result.andThen_ok, run_sizeOf_of hs]
  simp only [Std.Legacy.Range.forIn_eq_forIn_range', Std.Legacy.Range.size]
  rw [show (n - 0 + 1 - 1) / 1 = n from by omega, ← List.range_eq_range']
  have key : ∀ l : List Nat, (∀ i ∈ l, i < n) → ((forIn l (none, PUnit.unit) fun i (r : Option Bool × PUnit) => do
      let x ← part e xs (i * sz)
      let y ← part e ys (i * sz)
      let z ← Op.equalIn d e x y
      if (!z) = true then pure (ForInStep.done (some false, PUnit.unit)) else pure (ForInStep.yield (none, PUnit.unit)) : Sem (Option Bool × PUnit))).run P w = .ok (if l.all b then (none, PUnit.unit) else (some false, PUnit.unit)) w := by
    intro l
    induction l with
    | nil => intro _; simp
    | cons i l ih =>
      intro hl
      have h1 := h i (hl i (by simp)) w
      simp only [Sem.run_bind] at h1
      rw [List.forIn_cons]
      simp only [Sem.run_bind]
      generalize (part e xs (i * sz)).run P w = r1 at h1 ⊢
      cases r1 with
      | halt x w1 => simp [Result.andThen] at h1
      | ok x w1 =>
        simp only [Result.andThen_ok] at h1 ⊢
        generalize (part e ys (i * sz)).run P w1 = r2 at h1 ⊢
        cases r2 with
        | halt x w2 => simp [Result.andThen] at h1
        | ok y w2 =>
          simp only [Result.andThen_ok] at h1 ⊢
          rw [h1]
          simp only [Result.andThen_ok]
          cases hb : b i with
          | false => simp [hb]
          | true =>
            simp only [Bool.not_true, Bool.false_eq_true, if_false, Sem.run_pure, Result.andThen_ok, List.all_cons, hb, Bool.true_and]
            exact ih (fun j hj => hl j (by simp [hj]))
  have h2 := key (List.range n) (fun i hi => List.mem_range.1 hi)
  rw [h2]
  cases (List.range n).all b <;> simp
def eqn {α : Type} [DecidableEq α] (n : Nat) (f g : Nat → α) : Bool := (List.range n).all fun i => decide (f i = g i)
theorem eqn_true {α : Type} [DecidableEq α] {n : Nat} {f g : Nat → α} (h : ∀ i, i < n → f i = g i) : eqn n f g = true := by
  unfold eqn
  rw [List.all_eq_true]
  intro i hi
  simpa using h i (List.mem_range.1 hi)
theorem eqn_iff {α : Type} [DecidableEq α] {n : Nat} {f g : Nat → α} : eqn n f g = true ↔ ∀ i, i < n → f i = g i := by
  refine ⟨fun h i hi => ?_, eqn_true⟩
  unfold eqn at h
  rw [List.all_eq_true] at h
  simpa using h i (List.mem_range.2 hi)
theorem eqn_mul {α : Type} [DecidableEq α] {n m : Nat} {f g : Nat → α} : ((List.range n).all fun i => eqn m (fun j => f (i * m + j)) (fun j => g (i * m + j))) = eqn (n * m) f g := by
  rw [Bool.eq_iff_iff, eqn_iff, List.all_eq_true]
  simp only [eqn_iff, List.mem_range]
  refine ⟨fun h k hk => ?_, fun h i hi j hj => h _ ?_⟩
  · have hm : 0 < m := by
      rcases Nat.eq_zero_or_pos m with h0 | h0
      · subst h0; simp at hk
      · exact h0
    have := h (k / m) (by rw [Nat.div_lt_iff_lt_mul hm]; exact hk) (k % m) (Nat.mod_lt _ hm)
    rwa [Nat.mul_comm, Nat.div_add_mod] at this
  · have := Nat.mul_le_mul_right m hi
    rw [Nat.succ_mul] at this
    omega
/-- What a type's '==' says of two arrays of m numbers. -/
def TEq (P : Program) (t m : Nat) {α : Type} [DecidableEq α] (v : α → Value) : Prop := P.eqGuardType P.depth t = false ∧ ∀ (d : Nat) (f g : Nat → α) (w : World), (Op.equalIn (d + 3) t (.agg (ns v m f).toArray) (.agg (ns v m g).toArray)).run P w = .ok (eqn m f g) w
theorem run_eq1 {t n e : Nat} {α : Type} [DecidableEq α] {v : α → Value} {k : IntKind} (ht : P.underlying t = some (.array n e)) (he : TOne P e) (hk : P.underlying e = some (.int k)) (hv : ∀ x y, ∃ p q k', v x = .int k' p ∧ v y = .int k' q ∧ (p = q ↔ x = y)) (d N : Nat) (hN : n ≤ N) (f g : Nat → α) (w : World) :
    (Op.equalIn (d + 2) t (.agg (ns v N f).toArray) (.agg (ns v N g).toArray)).run P w = .ok (eqn n f g) w := by
  refine run_eqArr (d + 1) t n e 1 _ _ (fun i => decide (f i = g i)) ht he.2 (fun i hi w => ?_) w
  have h1 : ∀ (h : Nat → α), (part e (ns v N h).toArray (i * 1)).run P w = .ok (v (h i)) w := fun h => by
    have h2 : ((ns v N h).toArray)[i * 1]? = some (v (h i)) := by rw [Nat.mul_one]; simpa using ns_nth (v := v) (f := h) (n := N) (q := i) (by omega)
    simp only [part, Sem.run_bind, he.run_isAgg, Result.andThen_ok, Bool.false_eq_true, if_false, h2]
    rfl
  obtain ⟨p, q, k', e1, e2, e3⟩ := hv (f i) (g i)
  simp only [Sem.run_bind, h1, Result.andThen_ok, e1, e2]
  rw [run_equalIn_int w d e k' k p q hk]
  congr 1
  rw [Bool.eq_iff_iff]
  simp [e3]
theorem teq1 {t n e : Nat} {α : Type} [DecidableEq α] {v : α → Value} {k : IntKind} (hg : P.eqGuardType P.depth t = false) (ht : P.underlying t = some (.array n e)) (he : TOne P e) (hk : P.underlying e = some (.int k)) (hv : ∀ x y, ∃ p q k', v x = .int k' p ∧ v y = .int k' q ∧ (p = q ↔ x = y)) : TEq P t n v :=
  ⟨hg, fun d f g w => run_eq1 ht he hk hv (d + 1) n (Nat.le_refl _) f g w⟩
theorem teq2 {t n e m e' N : Nat} {α : Type} [DecidableEq α] {v : α → Value} {k : IntKind} (hg : P.eqGuardType P.depth t = false) (ht : P.underlying t = some (.array n e)) (ha : TArr P e m e' m) (he : TOne P e') (hk : P.underlying e' = some (.int k)) (hv : ∀ x y, ∃ p q k', v x = .int k' p ∧ v y = .int k' q ∧ (p = q ↔ x = y)) (hN : n * m = N) : TEq P t N v := by
  subst hN
  exact ⟨hg, fun d f g w => by
    rw [← eqn_mul]
    refine run_eqArr (d + 2) t n e m _ _ (fun i => eqn m (fun j => f (i * m + j)) (fun j => g (i * m + j))) ht ha.2 (fun i hi w => ?_) w
    have h4 : (isAgg e).run P w = .ok true w := by unfold isAgg; rw [Sem.run_bind, run_underlying ha.1 w]; rfl
    have hle : i * m + m ≤ n * m := by rw [← Nat.succ_mul]; exact Nat.mul_le_mul_right _ hi
    have h1 : ∀ (h : Nat → α), (part e (ns v (n * m) h).toArray (i * m)).run P w = .ok (.agg (ns v m (fun j => h (i * m + j))).toArray) w := fun h => by
      have h5 : (ns v (n * m) h).toArray.extract (i * m) (i * m + m) = (ns v m (fun j => h (i * m + j))).toArray := by
        rw [← ns_sub hle]
        simp [List.extract_eq_take_drop]
      simp only [part, Sem.run_bind, h4, Result.andThen_ok, if_true, run_sizeOf_of ha.2, Sem.run_pure, h5]
    simp only [Sem.run_bind, h1, Result.andThen_ok]
    exact run_eq1 ha.1 he hk hv d m (Nat.le_refl _) _ _ w⟩
theorem vb_inj (x y : UInt8) : ∃ p q k', vb x = .int k' p ∧ vb y = .int k' q ∧ (p = q ↔ x = y) := ⟨_, _, _, rfl, rfl, by rw [← UInt8.toNat_inj]; omega⟩
theorem vw_inj (x y : UInt32) : ∃ p q k', vw x = .int k' p ∧ vw y = .int k' q ∧ (p = q ↔ x = y) := ⟨_, _, _, rfl, rfl, by rw [← UInt32.toNat_inj]; omega⟩
variable {s : Sl} {M : As} {o : Oper}
theorem y_eqlarr {t ty m : Nat} {α : Type} [DecidableEq α] {v : α → Value} {x y : Operand} {f g : Nat → α} (hq : TEq P t m v) (ho : o.op = .binOp .eql t x y ty) (hx : ev s x = some (.agg (ns v m f).toArray)) (hy : ev s y = some (.agg (ns v m g).toArray)) : Yl P s M o (.bool (eqn m f g)) := fun a ha w _ => by
  have h1 := hq.2 9997 f g w
  simp only [execOp, ho, ha x _ hx, ha y _ hy, Sem.run_bind]
  have hg : (eqGuard .eql t x y (.agg (ns v m f).toArray) (.agg (ns v m g).toArray)).run P w = .ok () w := by
    unfold eqGuard
    simp [hq.1]
  rw [hg]
  simp only [Result.andThen_ok, binOp, Op.equal, Op.maxDepth, Sem.run_bind]
  rw [h1]
  rfl
theorem y_neqarr {t ty m : Nat} {α : Type} [DecidableEq α] {v : α → Value} {x y : Operand} {f g : Nat → α} (hq : TEq P t m v) (ho : o.op = .binOp .neq t x y ty) (hx : ev s x = some (.agg (ns v m f).toArray)) (hy : ev s y = some (.agg (ns v m g).toArray)) : Yl P s M o (.bool (!(eqn m f g))) := fun a ha w _ => by
  have h1 := hq.2 9997 f g w
  simp only [execOp, ho, ha x _ hx, ha y _ hy, Sem.run_bind]
  have hg : (eqGuard .neq t x y (.agg (ns v m f).toArray) (.agg (ns v m g).toArray)).run P w = .ok () w := by
    unfold eqGuard
    simp [hq.1]
  rw [hg]
  simp only [Result.andThen_ok, binOp, Op.equal, Op.maxDepth, Sem.run_bind]
  rw [h1]
  rfl
theorem y_eqlbool {t ty : Nat} {x y : Operand} {p q : Bool} (ht : P.underlying t = some .bool) (ho : o.op = .binOp .eql t x y ty) (hx : ev s x = some (.bool p)) (hy : ev s y = some (.bool q)) : Yl P s M o (.bool (p == q)) := fun a ha w _ => by
  simp only [execOp, ho, ha x _ hx, ha y _ hy, Sem.run_bind]
  have hg : (eqGuard .eql t x y (.bool p) (.bool q)).run P w = .ok () w := by unfold eqGuard; rfl
  rw [hg]
  have h1 : (Op.equalIn 10000 t (.bool p) (.bool q)).run P w = .ok (p == q) w := run_equalIn_bool' w 9999 t p q ht
  simp only [Result.andThen_ok, binOp, Op.equal, Op.maxDepth, Sem.run_bind, h1]
  rfl
end
end Go.Proofs.YtcdidapkpfnphaaDoor
