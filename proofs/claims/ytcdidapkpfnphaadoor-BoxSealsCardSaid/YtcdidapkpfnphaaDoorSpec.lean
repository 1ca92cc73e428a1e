/- What the functions come to, in plain Lean. -/
namespace Go.Proofs.YtcdidapkpfnphaaDoor
def twice (a : UInt8) : UInt8 := if a &&& 128 ≠ 0 then a <<< 1 ^^^ 27 else a <<< 1
def twiceR (a : UInt8) : UInt8 := if (128 : UInt8).toNat ≤ a.toNat then a * 2 ^^^ 27 else a * 2
/-- The numbers of a product after k rounds: what is left of a, b doubled, the sum. -/
def mulSt (a b : UInt8) : Nat → UInt8 × UInt8 × UInt8
  | 0 => (a, b, 0)
  | k + 1 => ((mulSt a b k).1 / 2, twiceR (mulSt a b k).2.1, if (mulSt a b k).1 % 2 = 1 then (mulSt a b k).2.2 ^^^ (mulSt a b k).2.1 else (mulSt a b k).2.2)
def mulR (a b : UInt8) : UInt8 := (mulSt a b 8).2.2
def leftR (a : UInt8) (n : Nat) : UInt8 := a <<< UInt8.ofNat n ||| a >>> UInt8.ofNat (8 - n)
def invR (a : UInt8) : UInt8 := match (List.range 256).find? (fun j => mulR a (UInt8.ofNat j) = 1) with
  | some j => UInt8.ofNat j
  | none => 0
theorem invR_of {a : UInt8} {k : Nat} (hk : k < 256) (h : ∀ j, j < k → mulR a (UInt8.ofNat j) ≠ 1) (h1 : mulR a (UInt8.ofNat k) = 1) : invR a = UInt8.ofNat k := by
  have e : (List.range 256).find? (fun j => mulR a (UInt8.ofNat j) = 1) = some k := by
    rw [List.find?_range_eq_some]
    exact ⟨by simpa using h1, by simpa using hk, fun j hj => by simpa using h j hj⟩
  rw [invR, e]
theorem invR_none {a : UInt8} (h : ∀ j, j < 256 → mulR a (UInt8.ofNat j) ≠ 1) : invR a = 0 := by
  have e : (List.range 256).find? (fun j => mulR a (UInt8.ofNat j) = 1) = none := by
    rw [List.find?_eq_none]
    intro j hj
    simpa using h j (by simpa using hj)
  rw [invR, e]
def boxR (a : UInt8) : UInt8 := invR a ^^^ leftR (invR a) 1 ^^^ leftR (invR a) 2 ^^^ leftR (invR a) 3 ^^^ leftR (invR a) 4 ^^^ 99
def colR (f : Nat → UInt8) (i : Nat) : UInt8 := twiceR (f i) ^^^ f ((i + 1) % 4) ^^^ twiceR (f ((i + 1) % 4)) ^^^ f ((i + 2) % 4) ^^^ f ((i + 3) % 4)
def powN (a : UInt8) : Nat → UInt8
  | 0 => 1
  | k + 1 => mulR (powN a k) a
def powR (a : UInt8) (n : Int) : UInt8 := powN a (if n > 255 then (n - 1) % 255 + 1 else n).toNat
/-- The numbers of the faster product after k rounds. -/
def gSt (a b : UInt8) : Nat → UInt8 × UInt8 × UInt8
  | 0 => (a, b, 0)
  | k + 1 => ((gSt a b k).1 >>> UInt8.ofNat 1, twice (gSt a b k).2.1, if (gSt a b k).1 &&& 1 = 0 then (gSt a b k).2.2 else (gSt a b k).2.2 ^^^ (gSt a b k).2.1)
def mulG (a b : UInt8) : UInt8 := (gSt a b 8).2.2
theorem gSt_1 (a b : UInt8) : ∀ k, (gSt a b k).1.toNat = a.toNat / 2 ^ k
  | 0 => by simp [gSt]
  | k + 1 => by
    show ((gSt a b k).1 >>> UInt8.ofNat 1).toNat = _
    rw [UInt8.toNat_shiftRight, gSt_1 a b k, Nat.pow_succ, ← Nat.div_div_eq_div_mul]
    simp [Nat.shiftRight_eq_div_pow]
theorem gSt_lt {a b : UInt8} {k : Nat} (h : (gSt a b k).1 ≠ 0) : (gSt a b (k + 1)).1.toNat < (gSt a b k).1.toNat := by
  have h0 : (gSt a b k).1.toNat ≠ 0 := fun e => h (UInt8.toNat_inj.1 (by simpa using e))
  have h1 := gSt_1 a b k
  have h2 := gSt_1 a b (k + 1)
  rw [Nat.pow_succ, ← Nat.div_div_eq_div_mul, ← h1] at h2
  omega
theorem gSt_stop {a b : UInt8} {k : Nat} (h : (gSt a b k).1 = 0) : ∀ j, (gSt a b (k + j)).1 = 0 ∧ (gSt a b (k + j)).2.2 = (gSt a b k).2.2
  | 0 => ⟨h, rfl⟩
  | j + 1 => by
    obtain ⟨h1, h2⟩ := gSt_stop h j
    constructor
    · show (gSt a b (k + j)).1 >>> UInt8.ofNat 1 = 0
      rw [h1]; rfl
    · show (if (gSt a b (k + j)).1 &&& 1 = 0 then _ else _) = _
      rw [h1, if_pos (by decide)]; exact h2
theorem mulG_of {a b : UInt8} {k : Nat} (h : (gSt a b k).1 = 0) : mulG a b = (gSt a b k).2.2 := by
  have h8 : (gSt a b 8).1 = 0 := UInt8.toNat_inj.1 (by rw [gSt_1]; have := a.toNat_lt; simp; omega)
  rcases Nat.le_total k 8 with hk | hk
  · have := (gSt_stop h (8 - k)).2
    rw [show k + (8 - k) = 8 from by omega] at this
    exact this
  · have := (gSt_stop h8 (k - 8)).2
    rw [show 8 + (k - 8) = k from by omega] at this
    exact this.symm
def redN (n : Nat) : Nat := if 255 < n then (n - 1) % 255 + 1 else n
theorem redN_le (n : Nat) : redN n ≤ 255 := by unfold redN; split <;> omega
/-- The numbers of the faster power after k rounds: what is gathered, a squared, what is left of n. -/
def pSt (a : UInt8) (m : Nat) : Nat → UInt8 × UInt8 × Nat
  | 0 => (1, a, m)
  | k + 1 => (if (pSt a m k).2.2 % 2 = 1 then mulG (pSt a m k).1 (pSt a m k).2.1 else (pSt a m k).1, mulG (pSt a m k).2.1 (pSt a m k).2.1, (pSt a m k).2.2 / 2 ^ 1)
def powG (a : UInt8) (m : Nat) : UInt8 := (pSt a m 8).1
theorem pSt_n (a : UInt8) (m : Nat) : ∀ k, (pSt a m k).2.2 = m / 2 ^ k
  | 0 => by simp [pSt]
  | k + 1 => by
    show (pSt a m k).2.2 / 2 ^ 1 = _
    rw [pSt_n a m k, Nat.pow_succ 2 k, ← Nat.div_div_eq_div_mul]
theorem pSt_le (a : UInt8) (m k : Nat) : (pSt a m k).2.2 ≤ m := by rw [pSt_n]; exact Nat.div_le_self _ _
theorem pSt_stop {a : UInt8} {m k : Nat} (h : (pSt a m k).2.2 < 1) : ∀ j, (pSt a m (k + j)).2.2 = 0 ∧ (pSt a m (k + j)).1 = (pSt a m k).1
  | 0 => ⟨by simpa using h, rfl⟩
  | j + 1 => by
    obtain ⟨h1, h2⟩ := pSt_stop h j
    constructor
    · show (pSt a m (k + j)).2.2 / 2 ^ 1 = 0
      rw [h1]
    · show (if (pSt a m (k + j)).2.2 % 2 = 1 then _ else _) = _
      rw [h1, if_neg (by decide)]; exact h2
theorem powG_of {a : UInt8} {m k : Nat} (hm : m ≤ 255) (h : (pSt a m k).2.2 < 1) : powG a m = (pSt a m k).1 := by
  have h8 : (pSt a m 8).2.2 < 1 := by rw [pSt_n]; simp; omega
  rcases Nat.le_total k 8 with hk | hk
  · have := (pSt_stop h (8 - k)).2
    rw [show k + (8 - k) = 8 from by omega] at this
    exact this
  · have := (pSt_stop h8 (k - 8)).2
    rw [show 8 + (k - 8) = k from by omega] at this
    exact this.symm
def boxL : List UInt8 := [
  0x63, 0x7c, 0x77, 0x7b, 0xf2, 0x6b, 0x6f, 0xc5, 0x30, 0x01, 0x67, 0x2b, 0xfe, 0xd7, 0xab, 0x76,
  0xca, 0x82, 0xc9, 0x7d, 0xfa, 0x59, 0x47, 0xf0, 0xad, 0xd4, 0xa2, 0xaf, 0x9c, 0xa4, 0x72, 0xc0,
  0xb7, 0xfd, 0x93, 0x26, 0x36, 0x3f, 0xf7, 0xcc, 0x34, 0xa5, 0xe5, 0xf1, 0x71, 0xd8, 0x31, 0x15,
  0x04, 0xc7, 0x23, 0xc3, 0x18, 0x96, 0x05, 0x9a, 0x07, 0x12, 0x80, 0xe2, 0xeb, 0x27, 0xb2, 0x75,
  0x09, 0x83, 0x2c, 0x1a, 0x1b, 0x6e, 0x5a, 0xa0, 0x52, 0x3b, 0xd6, 0xb3, 0x29, 0xe3, 0x2f, 0x84,
  0x53, 0xd1, 0x00, 0xed, 0x20, 0xfc, 0xb1, 0x5b, 0x6a, 0xcb, 0xbe, 0x39, 0x4a, 0x4c, 0x58, 0xcf,
  0xd0, 0xef, 0xaa, 0xfb, 0x43, 0x4d, 0x33, 0x85, 0x45, 0xf9, 0x02, 0x7f, 0x50, 0x3c, 0x9f, 0xa8,
  0x51, 0xa3, 0x40, 0x8f, 0x92, 0x9d, 0x38, 0xf5, 0xbc, 0xb6, 0xda, 0x21, 0x10, 0xff, 0xf3, 0xd2,
  0xcd, 0x0c, 0x13, 0xec, 0x5f, 0x97, 0x44, 0x17, 0xc4, 0xa7, 0x7e, 0x3d, 0x64, 0x5d, 0x19, 0x73,
  0x60, 0x81, 0x4f, 0xdc, 0x22, 0x2a, 0x90, 0x88, 0x46, 0xee, 0xb8, 0x14, 0xde, 0x5e, 0x0b, 0xdb,
  0xe0, 0x32, 0x3a, 0x0a, 0x49, 0x06, 0x24, 0x5c, 0xc2, 0xd3, 0xac, 0x62, 0x91, 0x95, 0xe4, 0x79,
  0xe7, 0xc8, 0x37, 0x6d, 0x8d, 0xd5, 0x4e, 0xa9, 0x6c, 0x56, 0xf4, 0xea, 0x65, 0x7a, 0xae, 0x08,
  0xba, 0x78, 0x25, 0x2e, 0x1c, 0xa6, 0xb4, 0xc6, 0xe8, 0xdd, 0x74, 0x1f, 0x4b, 0xbd, 0x8b, 0x8a,
  0x70, 0x3e, 0xb5, 0x66, 0x48, 0x03, 0xf6, 0x0e, 0x61, 0x35, 0x57, 0xb9, 0x86, 0xc1, 0x1d, 0x9e,
  0xe1, 0xf8, 0x98, 0x11, 0x69, 0xd9, 0x8e, 0x94, 0x9b, 0x1e, 0x87, 0xe9, 0xce, 0x55, 0x28, 0xdf,
  0x8c, 0xa1, 0x89, 0x0d, 0xbf, 0xe6, 0x42, 0x68, 0x41, 0x99, 0x2d, 0x0f, 0xb0, 0x54, 0xbb, 0x16]
def boxF (i : Nat) : UInt8 := boxL.getD i 0
def boxT (a : UInt8) : UInt8 := boxF a.toNat
def colG (f : Nat → UInt8) (i : Nat) : UInt8 := f (i % 4) ^^^ (f 0 ^^^ f 1 ^^^ f 2 ^^^ f 3) ^^^ twice (f (i % 4) ^^^ f ((i + 1) % 4))
end Go.Proofs.YtcdidapkpfnphaaDoor
