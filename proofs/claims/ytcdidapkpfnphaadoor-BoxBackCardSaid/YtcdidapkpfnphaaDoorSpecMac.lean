/- What keys, tags and chains of keys come to, in plain Lean. -/
import Derived.Test.YtcdidapkpfnphaaDoorSpecShb
import Derived.Test.YtcdidapkpfnphaaDoorSpecCtr
import Derived.Test.YtcdidapkpfnphaaDoorLibM
namespace Go.Proofs.YtcdidapkpfnphaaDoor
open Go.RowKit
/-- Filled up with noughts to so many bytes. -/
def padK (l : List UInt8) (m : Nat) : List UInt8 := l ++ List.replicate (m - l.length) 0
theorem padK_len {l : List UInt8} {m : Nat} (h : l.length ≤ m) : (padK l m).length = m := by rw [padK, List.length_append, List.length_replicate]; omega
def keyL (kl : List UInt8) : List UInt8 := if 64 < kl.length then shaL kl else kl
theorem keyL_le (kl : List UInt8) : (keyL kl).length ≤ 64 := by
  unfold keyL
  split
  · rw [shaL_len]; decide
  · omega
def macKey (kl : List UInt8) : List UInt8 := padK (keyL kl) 64
theorem macKey_len (kl : List UInt8) : (macKey kl).length = 64 := padK_len (keyL_le kl)
/-- A key by turns with a byte. -/
def overL (k : List UInt8) (c : UInt8) : List UInt8 := k.map (· ^^^ c)
theorem overL_len (k : List UInt8) (c : UInt8) : (overL k c).length = k.length := by simp [overL]
def hmacL (kl tl : List UInt8) : List UInt8 := shaL (overL (macKey kl) 92 ++ shaL (overL (macKey kl) 54 ++ tl))
theorem hmacL_len (kl tl : List UInt8) : (hmacL kl tl).length = 32 := shaL_len _
theorem catL1 (v : Value) (l : List UInt8) : catL [(v, l)] = l := by simp [catL]
theorem catL2 (v u : Value) (l m : List UInt8) : catL [(v, l), (u, m)] = l ++ m := by simp [catL]
theorem catL3 (v u x : Value) (l m n : List UInt8) : catL [(v, l), (u, m), (x, n)] = l ++ m ++ n := by simp [catL]
theorem pad_cp {l : List UInt8} {m : Nat} (h : l.length ≤ m) : (List.replicate m (Value.int .u8 0)).take 0 ++ (ls vb l).take m ++ (List.replicate m (Value.int .u8 0)).drop (0 + ((ls vb l).take m).length) = ls vb (padK l m) := by
  have e : (ls vb l).take m = ls vb l := List.take_of_length_le (by rw [ls_len]; exact h)
  rw [e, List.take_zero, List.nil_append, Nat.zero_add, ls_len, List.drop_replicate, padK, ← ls_app]
  simp [ls]
theorem pad_fill {l : List UInt8} {m k : Nat} (h : l.length ≤ m) (hk : l.length ≤ k) : ns vb m (fun i => if i < k ∧ i < l.length then l.getD i 0 else 0) = ls vb (padK l m) := by
  apply List.ext_getElem?
  intro j
  by_cases hj : j < m
  · rw [ns_nth hj, ls_nthD (by rw [padK_len h]; exact hj)]
    congr 2
    by_cases h1 : j < l.length
    · rw [if_pos ⟨by omega, h1⟩, padK, List.getD_eq_getElem?_getD, List.getD_eq_getElem?_getD, List.getElem?_append_left h1]
    · rw [if_neg (fun h => h1 h.2), padK, List.getD_eq_getElem?_getD, List.getElem?_append_right (by omega), List.getElem?_replicate]
      split <;> rfl
  · rw [List.getElem?_eq_none (by rw [ns_len]; omega), List.getElem?_eq_none (by rw [ls_len, padK_len h]; omega)]
theorem pad_step {l : List UInt8} {m k : Nat} (hk : k < l.length) : ns vb m (upd (fun i => if i < k ∧ i < l.length then l.getD i 0 else 0) (0 + k) (l.getD k 0)) = ns vb m (fun i => if i < k + 1 ∧ i < l.length then l.getD i 0 else 0) := by
  rw [Nat.zero_add]
  apply ns_ext
  intro i _
  unfold upd
  by_cases h : i = k
  · subst h; rw [if_pos rfl, if_pos ⟨by omega, hk⟩]
  · simp only [if_neg h]
    by_cases h2 : i < k ∧ i < l.length
    · rw [if_pos h2, if_pos ⟨by omega, h2.2⟩]
    · rw [if_neg h2, if_neg (fun h3 => h2 ⟨by omega, h3.2⟩)]
theorem xor_rep (k : List UInt8) (c : UInt8) (n : Nat) (h : k.length = n) : xorL k (List.replicate n c) = overL k c := by
  subst h
  induction k with
  | nil => rfl
  | cons a k ih => simp only [xorL, overL, List.length_cons, List.replicate_succ, List.zipWith_cons_cons, List.map_cons] at ih ⊢; rw [ih]
theorem over_next (k : List UInt8) (c : UInt8) {i : Nat} (h : i < k.length) : overL (k.take i) c ++ [k.getD i 0 ^^^ c] = overL (k.take (i + 1)) c := by
  rw [overL, overL, List.take_add_one, List.map_append]
  simp [List.getD_eq_getElem?_getD, h]
end Go.Proofs.YtcdidapkpfnphaaDoor
