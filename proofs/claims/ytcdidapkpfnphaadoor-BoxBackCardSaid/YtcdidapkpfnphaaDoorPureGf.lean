/- The field of 256 numbers in plain Lean: the two ways to reckon are one, and the laws of the field. -/
import Derived.Test.YtcdidapkpfnphaaDoorSpec
namespace Go.Proofs.YtcdidapkpfnphaaDoor
theorem all8 {p : UInt8 → Prop} (h : ∀ i : Fin 256, p (UInt8.ofFin i)) (a : UInt8) : p a := by
  have := h a.toFin
  rwa [show UInt8.ofFin a.toFin = a from rfl] at this
theorem twice_eq (a : UInt8) : twice a = twiceR a := all8 (p := fun a => twice a = twiceR a) (by decide +kernel) a
theorem half_eq (a : UInt8) : a >>> UInt8.ofNat 1 = a / 2 := all8 (p := fun a => a >>> UInt8.ofNat 1 = a / 2) (by decide +kernel) a
theorem odd_eq (a : UInt8) : (a &&& 1 = 0) ↔ ¬ (a % 2 = 1) := all8 (p := fun a => (a &&& 1 = 0) ↔ ¬ (a % 2 = 1)) (by decide +kernel) a
theorem gSt_eq (a b : UInt8) : ∀ k, gSt a b k = mulSt a b k
  | 0 => rfl
  | k + 1 => by
    simp only [gSt, mulSt, gSt_eq a b k, twice_eq, half_eq]
    by_cases h : (mulSt a b k).1 % 2 = 1
    · rw [if_pos h, if_neg (fun e => (odd_eq _).1 e h)]
    · rw [if_neg h, if_pos ((odd_eq _).2 h)]
theorem mulG_eq (a b : UInt8) : mulG a b = mulR a b := by rw [mulG, mulR, gSt_eq]
/-! Sums. -/
theorem xor_swap (a b c d : UInt8) : (a ^^^ b) ^^^ (c ^^^ d) = (a ^^^ c) ^^^ (b ^^^ d) := by
  rw [UInt8.xor_assoc, UInt8.xor_assoc, ← UInt8.xor_assoc b, UInt8.xor_comm b c, UInt8.xor_assoc c]
theorem xor_zero' (a : UInt8) : a ^^^ 0 = a := by simp
theorem and128 (a : UInt8) : a &&& 128 = 0 ∨ a &&& 128 = 128 := all8 (p := fun a => a &&& 128 = 0 ∨ a &&& 128 = 128) (by decide +kernel) a
theorem twice_form (a : UInt8) : twice a = (a <<< 1) ^^^ (if a &&& 128 ≠ 0 then 27 else 0) := by
  unfold twice
  split <;> simp
theorem xor_and (a b m : UInt8) : (a ^^^ b) &&& m = (a &&& m) ^^^ (b &&& m) := by
  apply UInt8.toBitVec_inj.1
  apply BitVec.eq_of_getLsbD_eq
  intro i _
  simp [Bool.and_xor_distrib_right]
theorem xor_shl1 (a b : UInt8) : (a ^^^ b) <<< 1 = (a <<< 1) ^^^ (b <<< 1) := by
  apply UInt8.toBitVec_inj.1
  rw [UInt8.toBitVec_shiftLeft, UInt8.toBitVec_xor, UInt8.toBitVec_xor, UInt8.toBitVec_shiftLeft, UInt8.toBitVec_shiftLeft]
  exact BitVec.shiftLeft_xor_distrib _ _ _
theorem twice_xor (a b : UInt8) : twice (a ^^^ b) = twice a ^^^ twice b := by
  rw [twice_form, twice_form a, twice_form b, xor_shl1, xor_and, xor_swap]
  congr 1
  rcases and128 a with h | h <;> rcases and128 b with h' | h' <;> rw [h, h'] <;> decide
theorem twiceR_xor (a b : UInt8) : twiceR (a ^^^ b) = twiceR a ^^^ twiceR b := by rw [← twice_eq, ← twice_eq, ← twice_eq, twice_xor]
theorem div2_xor (a b : UInt8) : (a ^^^ b) / 2 = a / 2 ^^^ b / 2 := by
  apply UInt8.toNat_inj.1
  simp [UInt8.toNat_div, Nat.xor_div_two]
theorem odd_xor (a b : UInt8) : ((a ^^^ b) % 2 = 1) ↔ ((a % 2 = 1) ↔ ¬ (b % 2 = 1)) := by
  have h1 : ∀ x : UInt8, (x % 2 = 1) ↔ x.toNat % 2 = 1 := fun x => by rw [← UInt8.toNat_inj]; simp
  rw [h1, h1, h1, UInt8.toNat_xor]
  have h2 := Nat.testBit_xor a.toNat b.toNat 0
  simp only [Nat.testBit_zero] at h2
  by_cases ha : a.toNat % 2 = 1 <;> by_cases hb : b.toNat % 2 = 1 <;> simp [ha, hb] at h2 ⊢ <;> omega
theorem mulSt_b (a a' b : UInt8) : ∀ k, (mulSt a b k).2.1 = (mulSt a' b k).2.1
  | 0 => rfl
  | k + 1 => by show twiceR _ = twiceR _; rw [mulSt_b a a' b k]
theorem mulSt_x1 (a a' b : UInt8) : ∀ k, (mulSt (a ^^^ a') b k).1 = (mulSt a b k).1 ^^^ (mulSt a' b k).1
  | 0 => rfl
  | k + 1 => by show _ / 2 = _ / 2 ^^^ _ / 2; rw [mulSt_x1 a a' b k, div2_xor]
theorem mulSt_x2 (a a' b : UInt8) : ∀ k, (mulSt (a ^^^ a') b k).2.2 = (mulSt a b k).2.2 ^^^ (mulSt a' b k).2.2
  | 0 => by simp [mulSt]
  | k + 1 => by
    simp only [mulSt]
    rw [mulSt_x1, mulSt_x2 a a' b k, mulSt_b (a ^^^ a') a b k, mulSt_b a' a b k]
    generalize (mulSt a b k).1 = x
    generalize (mulSt a' b k).1 = y
    generalize (mulSt a b k).2.1 = t
    generalize (mulSt a b k).2.2 = p
    generalize (mulSt a' b k).2.2 = q
    have h := odd_xor x y
    by_cases hx : x % 2 = 1 <;> by_cases hy : y % 2 = 1
    · rw [if_neg (by rw [h]; simp [hx, hy]), if_pos hx, if_pos hy, xor_swap]; simp
    · rw [if_pos (by rw [h]; simp [hx, hy]), if_pos hx, if_neg hy, UInt8.xor_assoc, UInt8.xor_comm q, ← UInt8.xor_assoc]
    · rw [if_pos (by rw [h]; simp [hx, hy]), if_neg hx, if_pos hy, UInt8.xor_assoc]
    · rw [if_neg (by rw [h]; simp [hx, hy]), if_neg hx, if_neg hy]
theorem mulR_x (a a' b : UInt8) : mulR (a ^^^ a') b = mulR a b ^^^ mulR a' b := mulSt_x2 a a' b 8
theorem mulSt_y1 (a b b' : UInt8) : ∀ k, (mulSt a (b ^^^ b') k).1 = (mulSt a b k).1
  | 0 => rfl
  | k + 1 => by show _ / 2 = _ / 2; rw [mulSt_y1 a b b' k]
theorem mulSt_y1' (a b b' : UInt8) : ∀ k, (mulSt a b' k).1 = (mulSt a b k).1
  | 0 => rfl
  | k + 1 => by show _ / 2 = _ / 2; rw [mulSt_y1' a b b' k]
theorem mulSt_y2 (a b b' : UInt8) : ∀ k, (mulSt a (b ^^^ b') k).2.1 = (mulSt a b k).2.1 ^^^ (mulSt a b' k).2.1
  | 0 => rfl
  | k + 1 => by show twiceR _ = twiceR _ ^^^ twiceR _; rw [mulSt_y2 a b b' k, twiceR_xor]
theorem mulSt_y3 (a b b' : UInt8) : ∀ k, (mulSt a (b ^^^ b') k).2.2 = (mulSt a b k).2.2 ^^^ (mulSt a b' k).2.2
  | 0 => by simp [mulSt]
  | k + 1 => by
    simp only [mulSt]
    rw [mulSt_y1, mulSt_y1' a b b' k, mulSt_y2, mulSt_y3 a b b' k]
    by_cases hx : (mulSt a b k).1 % 2 = 1
    · rw [if_pos hx, if_pos hx, if_pos hx, xor_swap]
    · rw [if_neg hx, if_neg hx, if_neg hx]
theorem mulR_y (a b b' : UInt8) : mulR a (b ^^^ b') = mulR a b ^^^ mulR a b' := mulSt_y3 a b b' 8
/-- What goes over sums is told by eight numbers. -/
def Add8 (f : UInt8 → UInt8) : Prop := ∀ x y, f (x ^^^ y) = f x ^^^ f y
theorem Add8.zero {f : UInt8 → UInt8} (h : Add8 f) : f 0 = 0 := by
  have := h 0 0
  simpa using this
theorem bits8 (a : UInt8) : a = (a &&& 1) ^^^ (a &&& 2) ^^^ (a &&& 4) ^^^ (a &&& 8) ^^^ (a &&& 16) ^^^ (a &&& 32) ^^^ (a &&& 64) ^^^ (a &&& 128) :=
  all8 (p := fun a => a = (a &&& 1) ^^^ (a &&& 2) ^^^ (a &&& 4) ^^^ (a &&& 8) ^^^ (a &&& 16) ^^^ (a &&& 32) ^^^ (a &&& 64) ^^^ (a &&& 128)) (by decide +kernel) a
theorem bit8 (a : UInt8) : (a &&& 1 = 0 ∨ a &&& 1 = 1) ∧ (a &&& 2 = 0 ∨ a &&& 2 = 2) ∧ (a &&& 4 = 0 ∨ a &&& 4 = 4) ∧ (a &&& 8 = 0 ∨ a &&& 8 = 8) ∧ (a &&& 16 = 0 ∨ a &&& 16 = 16) ∧ (a &&& 32 = 0 ∨ a &&& 32 = 32) ∧ (a &&& 64 = 0 ∨ a &&& 64 = 64) ∧ (a &&& 128 = 0 ∨ a &&& 128 = 128) :=
  all8 (p := fun a => (a &&& 1 = 0 ∨ a &&& 1 = 1) ∧ (a &&& 2 = 0 ∨ a &&& 2 = 2) ∧ (a &&& 4 = 0 ∨ a &&& 4 = 4) ∧ (a &&& 8 = 0 ∨ a &&& 8 = 8) ∧ (a &&& 16 = 0 ∨ a &&& 16 = 16) ∧ (a &&& 32 = 0 ∨ a &&& 32 = 32) ∧ (a &&& 64 = 0 ∨ a &&& 64 = 64) ∧ (a &&& 128 = 0 ∨ a &&& 128 = 128)) (by decide +kernel) a
theorem Add8.ext {f g : UInt8 → UInt8} (hf : Add8 f) (hg : Add8 g) (h : ∀ b ∈ ([1, 2, 4, 8, 16, 32, 64, 128] : List UInt8), f b = g b) (a : UInt8) : f a = g a := by
  have h0 : f 0 = g 0 := by rw [hf.zero, hg.zero]
  obtain ⟨h1, h2, h3, h4, h5, h6, h7, h8⟩ := bit8 a
  have key : ∀ (x m : UInt8), m ∈ ([1, 2, 4, 8, 16, 32, 64, 128] : List UInt8) → (x = 0 ∨ x = m) → f x = g x := by
    intro x m hm hx
    rcases hx with rfl | rfl
    · exact h0
    · exact h _ hm
  rw [bits8 a]
  simp only [hf _ _, hg _ _]
  rw [key _ 1 (by simp) h1, key _ 2 (by simp) h2, key _ 4 (by simp) h3, key _ 8 (by simp) h4, key _ 16 (by simp) h5, key _ 32 (by simp) h6, key _ 64 (by simp) h7, key _ 128 (by simp) h8]
theorem add_y (a : UInt8) : Add8 (mulR a) := mulR_y a
theorem add_x (b : UInt8) : Add8 (fun a => mulR a b) := fun x y => mulR_x x y b
theorem mul_comm_base : ∀ a ∈ ([1, 2, 4, 8, 16, 32, 64, 128] : List UInt8), ∀ b ∈ ([1, 2, 4, 8, 16, 32, 64, 128] : List UInt8), mulR a b = mulR b a := by decide +kernel
theorem mulR_comm (a b : UInt8) : mulR a b = mulR b a :=
  Add8.ext (f := fun a => mulR a b) (g := fun a => mulR b a) (add_x b) (add_y b) (fun x hx => Add8.ext (f := fun b => mulR x b) (g := fun b => mulR b x) (add_y x) (add_x x) (fun y hy => mul_comm_base x hx y hy) b) a
theorem mul_assoc_base : ∀ a ∈ ([1, 2, 4, 8, 16, 32, 64, 128] : List UInt8), ∀ b ∈ ([1, 2, 4, 8, 16, 32, 64, 128] : List UInt8), ∀ c ∈ ([1, 2, 4, 8, 16, 32, 64, 128] : List UInt8), mulR a (mulR b c) = mulR (mulR a b) c := by decide +kernel
theorem mulR_assoc (a b c : UInt8) : mulR a (mulR b c) = mulR (mulR a b) c :=
  Add8.ext (f := fun a => mulR a (mulR b c)) (g := fun a => mulR (mulR a b) c) (add_x _) (fun x y => by show mulR (mulR (x ^^^ y) b) c = _; rw [mulR_x, mulR_x])
    (fun x hx => Add8.ext (f := fun b => mulR x (mulR b c)) (g := fun b => mulR (mulR x b) c) (fun p q => by show mulR x (mulR (p ^^^ q) c) = _; rw [mulR_x, mulR_y]) (fun p q => by show mulR (mulR x (p ^^^ q)) c = _; rw [mulR_y, mulR_x])
      (fun y hy => Add8.ext (f := fun c => mulR x (mulR y c)) (g := fun c => mulR (mulR x y) c) (fun p q => by show mulR x (mulR y (p ^^^ q)) = _; rw [mulR_y, mulR_y]) (add_y _) (fun z hz => mul_assoc_base x hx y hy z hz) c) b) a
theorem mulR_one (a : UInt8) : mulR a 1 = a := all8 (p := fun a => mulR a 1 = a) (by decide +kernel) a
theorem one_mulR (a : UInt8) : mulR 1 a = a := by rw [mulR_comm, mulR_one]
/-! Powers. -/
theorem powN_add (a : UInt8) (m : Nat) : ∀ n, powN a (m + n) = mulR (powN a m) (powN a n)
  | 0 => by simp [powN, mulR_one]
  | n + 1 => by
    show mulR (powN a (m + n)) a = mulR (powN a m) (mulR (powN a n) a)
    rw [powN_add a m n, mulR_assoc]
theorem powN_one (a : UInt8) : powN a 1 = a := by show mulR 1 a = a; exact one_mulR a
theorem pSt_pow (a : UInt8) (m : Nat) : ∀ k, (pSt a m k).2.1 = powN a (2 ^ k) ∧ mulR (pSt a m k).1 (powN a (2 ^ k * (m / 2 ^ k))) = powN a m
  | 0 => by simp [pSt, one_mulR, powN_one]
  | k + 1 => by
    obtain ⟨h1, h2⟩ := pSt_pow a m k
    have hn := pSt_n a m k
    constructor
    · show mulG _ _ = _
      rw [mulG_eq, h1, ← powN_add]
      congr 1
      rw [Nat.pow_succ]; omega
    · have e : m / 2 ^ (k + 1) = m / 2 ^ k / 2 := by rw [Nat.pow_succ, ← Nat.div_div_eq_div_mul]
      rw [e]
      simp only [pSt]
      rw [hn, h1]
      generalize hd : m / 2 ^ k = d at *
      by_cases ho : d % 2 = 1
      · rw [if_pos ho, mulG_eq]
        have e2 : 2 ^ k * d = 2 ^ k + 2 ^ (k + 1) * (d / 2) := by
          have hd2 : d = 1 + 2 * (d / 2) := by omega
          rw [Nat.pow_succ, Nat.mul_assoc]
          conv => lhs; rw [hd2, Nat.mul_add, Nat.mul_one]
        rw [← mulR_assoc, ← powN_add, ← e2]
        exact h2
      · rw [if_neg ho]
        have e2 : 2 ^ k * d = 2 ^ (k + 1) * (d / 2) := by
          rw [Nat.pow_succ, Nat.mul_assoc]
          congr 1; omega
        rw [← e2]
        exact h2
theorem powG_eq (a : UInt8) {m : Nat} (hm : m ≤ 255) : powG a m = powN a m := by
  have h := (pSt_pow a m 8).2
  rw [show m / 2 ^ 8 = 0 from by simp; omega] at h
  simp only [Nat.mul_zero, powN, mulR_one] at h
  exact h
/-! Inverses. -/
theorem inv_base (a : UInt8) : a ≠ 0 → mulR a (powG a 254) = 1 := all8 (p := fun a => a ≠ 0 → mulR a (powG a 254) = 1) (by decide +kernel) a
theorem inv_unique {a j : UInt8} (h0 : a ≠ 0) (hj : mulR a j = 1) : j = powG a 254 := by
  have h1 := inv_base a h0
  have h2 : mulR (mulR (powG a 254) a) j = powG a 254 := by rw [← mulR_assoc, hj, mulR_one]
  rw [mulR_comm (powG a 254) a, h1, one_mulR] at h2
  exact h2
theorem mulR_zero_left (b : UInt8) : mulR 0 b = 0 := (add_x b).zero
theorem inv_zero : powG 0 254 = 0 := by decide +kernel
theorem invR_eq (a : UInt8) : invR a = powG a 254 := by
  by_cases h0 : a = 0
  · subst h0
    rw [invR_none (fun j _ e => by rw [mulR_zero_left] at e; exact absurd e (by decide)), inv_zero]
  · have h1 := inv_base a h0
    unfold invR
    cases hf : (List.range 256).find? (fun j => mulR a (UInt8.ofNat j) = 1) with
    | some j =>
      have := List.find?_some hf
      exact inv_unique h0 (by simpa using this)
    | none =>
      rw [List.find?_eq_none] at hf
      have := hf (powG a 254).toNat (by simp; exact UInt8.toNat_lt _)
      simp at this
      exact absurd h1 this
theorem inv_inv (a : UInt8) : powG (powG a 254) 254 = a := by
  by_cases h0 : a = 0
  · subst h0; rw [inv_zero, inv_zero]
  · have h1 := inv_base a h0
    have hb : powG a 254 ≠ 0 := fun e => by rw [e, mulR_comm, mulR_zero_left] at h1; exact absurd h1 (by decide)
    exact (inv_unique hb (by rw [mulR_comm]; exact h1)).symm
def invL : List UInt8 := [
  0, 1, 141, 246, 203, 82, 123, 209, 232, 79, 41, 192, 176, 225, 229, 199, 116, 180, 170, 75, 153, 43, 96, 95, 88, 63, 253, 204, 255, 64, 238, 178,
  58, 110, 90, 241, 85, 77, 168, 201, 193, 10, 152, 21, 48, 68, 162, 194, 44, 69, 146, 108, 243, 57, 102, 66, 242, 53, 32, 111, 119, 187, 89, 25,
  29, 254, 55, 103, 45, 49, 245, 105, 167, 100, 171, 19, 84, 37, 233, 9, 237, 92, 5, 202, 76, 36, 135, 191, 24, 62, 34, 240, 81, 236, 97, 23,
  22, 94, 175, 211, 73, 166, 54, 67, 244, 71, 145, 223, 51, 147, 33, 59, 121, 183, 151, 133, 16, 181, 186, 60, 182, 112, 208, 6, 161, 250, 129, 130,
  131, 126, 127, 128, 150, 115, 190, 86, 155, 158, 149, 217, 247, 2, 185, 164, 222, 106, 50, 109, 216, 138, 132, 114, 42, 20, 159, 136, 249, 220, 137, 154,
  251, 124, 46, 195, 143, 184, 101, 72, 38, 200, 18, 74, 206, 231, 210, 98, 12, 224, 31, 239, 17, 117, 120, 113, 165, 142, 118, 61, 189, 188, 134, 87,
  11, 40, 47, 163, 218, 212, 228, 15, 169, 39, 83, 4, 27, 252, 172, 230, 122, 7, 174, 99, 197, 219, 226, 234, 148, 139, 196, 213, 157, 248, 144, 107,
  177, 13, 214, 235, 198, 14, 207, 173, 8, 78, 215, 227, 93, 80, 30, 179, 91, 35, 56, 52, 104, 70, 3, 140, 221, 156, 125, 160, 205, 26, 65, 28]
def invT (a : UInt8) : UInt8 := invL.getD a.toNat 0
theorem invT_eq (a : UInt8) : powG a 254 = invT a := by
  by_cases h0 : a = 0
  · subst h0; rw [inv_zero]; rfl
  · exact (inv_unique h0 (all8 (p := fun a => a ≠ 0 → mulR a (invT a) = 1) (by decide +kernel) a h0)).symm
theorem box_base (a : UInt8) : boxT a = powG a 254 ^^^ leftR (powG a 254) 1 ^^^ leftR (powG a 254) 2 ^^^ leftR (powG a 254) 3 ^^^ leftR (powG a 254) 4 ^^^ 99 := by
  rw [invT_eq]
  exact all8 (p := fun a => boxT a = invT a ^^^ leftR (invT a) 1 ^^^ leftR (invT a) 2 ^^^ leftR (invT a) 3 ^^^ leftR (invT a) 4 ^^^ 99) (by decide +kernel) a
theorem box_eq (a : UInt8) : boxT a = boxR a := by rw [boxR, invR_eq, box_base]
/-! Columns. -/
theorem xcol (a b c d x y : UInt8) : a ^^^ (a ^^^ b ^^^ c ^^^ d) ^^^ (x ^^^ y) = x ^^^ b ^^^ y ^^^ c ^^^ d := by
  apply UInt8.toBitVec_inj.1
  apply BitVec.eq_of_getLsbD_eq
  intro i _
  simp only [UInt8.toBitVec_xor, BitVec.getLsbD_xor]
  generalize a.toBitVec.getLsbD i = a
  generalize b.toBitVec.getLsbD i = b
  generalize c.toBitVec.getLsbD i = c
  generalize d.toBitVec.getLsbD i = d
  generalize x.toBitVec.getLsbD i = x
  generalize y.toBitVec.getLsbD i = y
  revert a b c d x y
  decide +kernel
theorem rot4 (f : Nat → UInt8) (i : Nat) (hi : i < 4) : f 0 ^^^ f 1 ^^^ f 2 ^^^ f 3 = f i ^^^ f ((i + 1) % 4) ^^^ f ((i + 2) % 4) ^^^ f ((i + 3) % 4) := by
  rcases (by omega : i = 0 ∨ i = 1 ∨ i = 2 ∨ i = 3) with rfl | rfl | rfl | rfl
  · rfl
  · show _ = f 1 ^^^ f 2 ^^^ f 3 ^^^ f 0
    ac_rfl
  · show _ = f 2 ^^^ f 3 ^^^ f 0 ^^^ f 1
    ac_rfl
  · show _ = f 3 ^^^ f 0 ^^^ f 1 ^^^ f 2
    ac_rfl
theorem col_eq (f : Nat → UInt8) (i : Nat) (hi : i < 4) : colG f i = colR f i := by
  unfold colG colR
  rw [Nat.mod_eq_of_lt hi, rot4 f i hi, twice_xor, twice_eq, twice_eq, xcol]
theorem col2 (f : Nat → UInt8) (i : Nat) (hi : i < 4) : colR (colR f) i = twiceR (twiceR (f i)) ^^^ f i ^^^ twiceR (twiceR (f ((i + 2) % 4))) := by
  have e1 : ((i + 1) % 4 + 1) % 4 = (i + 2) % 4 := by omega
  have e2 : ((i + 1) % 4 + 2) % 4 = (i + 3) % 4 := by omega
  have e3 : ((i + 1) % 4 + 3) % 4 = i := by omega
  have e4 : ((i + 2) % 4 + 1) % 4 = (i + 3) % 4 := by omega
  have e5 : ((i + 2) % 4 + 2) % 4 = i := by omega
  have e6 : ((i + 2) % 4 + 3) % 4 = (i + 1) % 4 := by omega
  have e7 : ((i + 3) % 4 + 1) % 4 = i := by omega
  have e8 : ((i + 3) % 4 + 2) % 4 = (i + 1) % 4 := by omega
  have e9 : ((i + 3) % 4 + 3) % 4 = (i + 2) % 4 := by omega
  simp only [colR, e1, e2, e3, e4, e5, e6, e7, e8, e9, twiceR_xor]
  generalize twiceR (twiceR (f i)) = tta
  generalize twiceR (twiceR (f ((i + 1) % 4))) = ttb
  generalize twiceR (twiceR (f ((i + 2) % 4))) = ttc
  generalize twiceR (f i) = ta
  generalize twiceR (f ((i + 1) % 4)) = tb
  generalize twiceR (f ((i + 2) % 4)) = tc
  generalize twiceR (f ((i + 3) % 4)) = td
  generalize f i = a
  generalize f ((i + 1) % 4) = b
  generalize f ((i + 2) % 4) = c
  generalize f ((i + 3) % 4) = d
  apply UInt8.toBitVec_inj.1
  apply BitVec.eq_of_getLsbD_eq
  intro j _
  simp only [UInt8.toBitVec_xor, BitVec.getLsbD_xor]
  generalize tta.toBitVec.getLsbD j = tta
  generalize ttb.toBitVec.getLsbD j = ttb
  generalize ttc.toBitVec.getLsbD j = ttc
  generalize ta.toBitVec.getLsbD j = ta
  generalize tb.toBitVec.getLsbD j = tb
  generalize tc.toBitVec.getLsbD j = tc
  generalize td.toBitVec.getLsbD j = td
  generalize a.toBitVec.getLsbD j = a
  generalize b.toBitVec.getLsbD j = b
  generalize c.toBitVec.getLsbD j = c
  generalize d.toBitVec.getLsbD j = d
  revert tta ttb ttc ta tb tc td a b c d
  decide +kernel
theorem col4 (f : Nat → UInt8) (i : Nat) (hi : i < 4) : colR (colR (colR (colR f))) i = f i := by
  have e1 : ((i + 2) % 4 + 2) % 4 = i := by omega
  rw [col2 _ i hi, col2 f i hi, col2 f _ (Nat.mod_lt _ (by decide)), e1]
  simp only [twiceR_xor]
  generalize twiceR (twiceR (twiceR (twiceR (f i)))) = p
  generalize twiceR (twiceR (twiceR (twiceR (f ((i + 2) % 4))))) = q
  generalize twiceR (twiceR (f i)) = x
  generalize twiceR (twiceR (f ((i + 2) % 4))) = y
  generalize f i = a
  apply UInt8.toBitVec_inj.1
  apply BitVec.eq_of_getLsbD_eq
  intro j _
  simp only [UInt8.toBitVec_xor, BitVec.getLsbD_xor]
  generalize p.toBitVec.getLsbD j = p
  generalize q.toBitVec.getLsbD j = q
  generalize x.toBitVec.getLsbD j = x
  generalize y.toBitVec.getLsbD j = y
  generalize a.toBitVec.getLsbD j = a
  revert p q x y a
  decide +kernel
theorem col_congr {f g : Nat → UInt8} (h : ∀ i, i < 4 → f i = g i) (i : Nat) (hi : i < 4) : colR f i = colR g i := by
  unfold colR
  rw [h i hi, h _ (Nat.mod_lt _ (by decide)), h _ (Nat.mod_lt _ (by decide)), h _ (Nat.mod_lt _ (by decide))]
theorem colG4 (f : Nat → UInt8) (i : Nat) (hi : i < 4) : colG (colG (colG (colG f))) i = f i := by
  rw [col_eq _ i hi, col_congr (fun j hj => col_eq _ j hj) i hi, col_congr (fun j hj => col_congr (fun k hk => col_eq _ k hk) j hj) i hi, col_congr (fun j hj => col_congr (fun k hk => col_congr (fun l hl => col_eq _ l hl) k hk) j hj) i hi]
  exact col4 f i hi
end Go.Proofs.YtcdidapkpfnphaaDoor
