/- What the functions of texts in sixteen signs come to, in plain Lean. -/
import Derived.Test.YtcdidapkpfnphaaLibJ
namespace Go.Proofs.Ytcdidapkpfnphaa
def hexD (n : UInt8) : UInt8 := if n.toNat < (10 : UInt8).toNat then 48 + n else 97 + n - 10
def hexL (l : List UInt8) : List UInt8 := l.flatMap fun c => [hexD (c >>> UInt8.ofNat 4), hexD (c &&& 15)]
theorem hexL_len (l : List UInt8) : (hexL l).length = 2 * l.length := by
  induction l with
  | nil => rfl
  | cons c l ih => simp only [hexL, List.flatMap_cons, List.length_append, List.length_cons, List.length_nil] at ih ⊢; omega
theorem hexL_app (a b : List UInt8) : hexL (a ++ b) = hexL a ++ hexL b := by simp [hexL]
theorem take_next {α : Type} (l : List α) (d : α) {k : Nat} (h : k < l.length) : l.take (k + 1) = l.take k ++ [l.getD k d] := by
  rw [List.take_add_one]
  simp [List.getD_eq_getElem?_getD, h]
theorem hexL_next {l : List UInt8} {k : Nat} (h : k < l.length) : hexL (l.take k) ++ [hexD (l.getD k 0 >>> UInt8.ofNat 4), hexD (l.getD k 0 &&& 15)] = hexL (l.take (k + 1)) := by
  rw [take_next l 0 h, hexL_app]
  rfl
def shortL (l : List UInt8) : List UInt8 := if l.length ≤ 4 then hexL l else hexL (l.take 3) ++ [46, 46]
def isF (c : UInt8) : Bool := decide (((48 : UInt8).toNat ≤ c.toNat ∧ c.toNat ≤ (57 : UInt8).toNat) ∨ ((97 : UInt8).toNat ≤ c.toNat ∧ c.toNat ≤ (102 : UInt8).toNat))
def valF (c : UInt8) : UInt8 := if (48 : UInt8).toNat ≤ c.toNat ∧ c.toNat ≤ (57 : UInt8).toNat then c - 48 else if (97 : UInt8).toNat ≤ c.toNat ∧ c.toNat ≤ (102 : UInt8).toNat then c - 97 + 10 else 0
def parN (l : List UInt8) (m : Nat) : List UInt8 := (List.range m).map fun i => valF (l.getD (2 * i) 0) <<< UInt8.ofNat 4 ||| valF (l.getD (2 * i + 1) 0)
theorem parN_len (l : List UInt8) (m : Nat) : (parN l m).length = m := by simp [parN]
theorem parN_next (l : List UInt8) (m : Nat) : parN l m ++ [valF (l.getD (2 * m) 0) <<< UInt8.ofNat 4 ||| valF (l.getD (2 * m + 1) 0)] = parN l (m + 1) := by simp [parN, List.range_succ]
def hiF (l : List UInt8) (k : Nat) : UInt8 := if k = 0 then 0 else valF (l.getD (if k % 2 = 1 then k - 1 else k - 2) 0)
theorem hi_even {l : List UInt8} {k : Nat} (h : k % 2 = 0) : valF (l.getD k 0) = hiF l (k + 1) := by
  simp only [hiF, if_neg (show ¬ k + 1 = 0 by omega), if_pos (show (k + 1) % 2 = 1 by omega), show k + 1 - 1 = k from by omega]
theorem hi_odd {l : List UInt8} {k : Nat} (h : k % 2 = 1) : hiF l k = hiF l (k + 1) := by
  simp only [hiF, if_neg (show ¬ k = 0 by omega), if_neg (show ¬ k + 1 = 0 by omega), if_pos h, if_neg (show ¬ (k + 1) % 2 = 1 by omega), show k + 1 - 2 = k - 1 from by omega]
theorem val_dig {c : UInt8} (h : (48 : UInt8).toNat ≤ c.toNat ∧ c.toNat ≤ (57 : UInt8).toNat) : Value.tuple #[vb (c - 48), .bool true] = .tuple #[vb (valF c), .bool (isF c)] := by
  rw [valF, if_pos h, isF, decide_eq_true (.inl h)]
theorem val_let {c : UInt8} (h0 : ¬ ((48 : UInt8).toNat ≤ c.toNat ∧ c.toNat ≤ (57 : UInt8).toNat)) (h : (97 : UInt8).toNat ≤ c.toNat ∧ c.toNat ≤ (102 : UInt8).toNat) : Value.tuple #[vb (c - 97 + 10), .bool true] = .tuple #[vb (valF c), .bool (isF c)] := by
  rw [valF, if_neg h0, if_pos h, isF, decide_eq_true (.inr h)]
theorem val_no {c : UInt8} (h0 : ¬ ((48 : UInt8).toNat ≤ c.toNat ∧ c.toNat ≤ (57 : UInt8).toNat)) (h : ¬ ((97 : UInt8).toNat ≤ c.toNat ∧ c.toNat ≤ (102 : UInt8).toNat)) : Value.tuple #[vb 0, .bool false] = .tuple #[vb (valF c), .bool (isF c)] := by
  rw [valF, if_neg h0, if_neg h, isF, decide_eq_false (by rintro (h1 | h1); exact h0 h1; exact h h1)]
def parOk (l : List UInt8) : Prop := (∀ j, j < l.length → isF (l.getD j 0) = true) ∧ l.length % 2 = 0
instance (l : List UInt8) : Decidable (parOk l) := inferInstanceAs (Decidable (_ ∧ _))
def parF (l : List UInt8) : Nat := if parOk l then 0 else 3
def parA (l : List UInt8) : List UInt8 := if parOk l then parN l (l.length / 2) else []
def rowsL (l : List UInt8) (w : Nat) : List (List UInt8) := if 1 ≤ w ∧ w ≤ 64 then (List.range (chunks l.length w)).map (fun k => hexL (chunk l w k)) else []
end Go.Proofs.Ytcdidapkpfnphaa
