/- Words of my own for walking a loaded program: a frame told by what some slots hold, memory told by the blocks of the call's own; triples over code and over lists of operations. -/
import Derived.WalkKit
import Derived.KernelRfl
import Derived.Orders
import Derived.OrdersHeld
import Derived.Below
import Derived.OwnWalk
import Derived.ScopeJumps
namespace Go.Proofs.YtcdidapkpfnphaaDoor
open Go.RowKit

/-! ### The frame -/
abbrev Sl := List (Nat × Value)
def lk : Sl → Nat → Option Value
  | [], _ => none
  | (k, v) :: s, j => bif Nat.beq k j then some v else lk s j
def ev (s : Sl) : Operand → Option Value
  | .tmp t => lk s t
  | .const v => some v
  | .global g => some (.pointer (some ⟨g, 0, none⟩))
  | .func f => some (.func (.func f) #[] #[])
/-- How many slots a frame has; its deferred calls. -/
structure Fz where
  n : Nat
  ds : List Deferred
structure Fr (n : Fz) (s : Sl) (a : Act) : Prop where
  size : a.tmps.size = n.n
  defers : a.defers = n.ds
  get : ∀ k v, lk s k = some v → a.tmps[k]? = some v
theorem Fr.eval {n : Fz} {s : Sl} {a : Act} (h : Fr n s a) {x : Operand} {v : Value} (hx : ev s x = some v) : a.eval x = v := by
  cases x with
  | tmp t => have h1 := h.get t v hx; simp [Act.eval, h1]
  | const c => simpa [ev, Act.eval] using hx
  | global g => simpa [ev, Act.eval] using hx
  | func f => simpa [ev, Act.eval] using hx
theorem Fr.put {n : Fz} {s : Sl} {a : Act} (h : Fr n s a) {d : Nat} (hd : Nat.blt d n.n = true) (v : Value) : Fr n ((d, v) :: s) (a.put (some d) v) := by
  have hlt : d < n.n := by simpa using hd
  refine ⟨by simp [Act.put, h.size], h.defers, fun k u hk => ?_⟩
  simp only [lk] at hk
  by_cases e : d = k
  · subst e
    simp only [Nat.beq_refl, cond_true, Option.some.injEq] at hk
    subst hk
    simp [Act.put, h.size, hlt]
  · have e' : Nat.beq d k = false := by
      cases hb : Nat.beq d k with
      | false => rfl
      | true => exact absurd (Nat.eq_of_beq_eq_true hb) e
    simp only [e', cond_false] at hk
    have h1 := h.get k u hk
    simp only [Act.put]
    rw [Array.getElem?_setIfInBounds_ne e]
    exact h1
theorem Fr.put_none {n : Fz} {s : Sl} {a : Act} (h : Fr n s a) (v : Value) : Fr n s (a.put none v) := h
/-- What s' tells s tells too. -/
def Sub : Sl → Sl → Prop
  | [], _ => True
  | (k, v) :: s', s => lk s k = some v ∧ Sub s' s
theorem Sub.get {s s' : Sl} (h : Sub s' s) : ∀ k v, lk s' k = some v → lk s k = some v := by
  induction s' with
  | nil => intro k v hk; simp [lk] at hk
  | cons p s' ih =>
    intro k v hk
    obtain ⟨p1, p2⟩ := p
    simp only [lk] at hk
    cases hb : Nat.beq p1 k with
    | true =>
      rw [hb] at hk
      simp only [cond_true, Option.some.injEq] at hk
      subst hk
      have := Nat.eq_of_beq_eq_true hb
      subst this
      exact h.1
    | false =>
      rw [hb] at hk
      exact ih h.2 k v hk
theorem Fr.sub {n : Fz} {s s' : Sl} {a : Act} (h : Fr n s a) (hs : Sub s' s) : Fr n s' a := ⟨h.size, h.defers, fun k v hk => h.get k v (hs.get k v hk)⟩
theorem lk_int {s : Sl} {k : Nat} {kd : IntKind} {x y : Int} (h : lk s k = some (.int kd x)) (e : x = y) : lk s k = some (.int kd y) := e ▸ h
theorem lk_eq {s : Sl} {k : Nat} {x y : Value} (h : lk s k = some x) (e : x = y) : lk s k = some y := e ▸ h

/-! ### Triples -/
abbrev As := World → Prop
section
variable {P : Program} {n : Fz} {s : Sl} {M : As}
def HC (P : Program) (c : Code) (Q : Exit → Act → World → Prop) (n : Fz) (s : Sl) (M : As) : Prop := ∀ a w, Fr n s a → M w → c.wp P Q a w
def HL (P : Program) (ops : Array Oper) (Q : Exit → Act → World → Prop) (l : List Oper) (n : Fz) (s : Sl) (M : As) : Prop := ∀ a w, Fr n s a → M w → wpList P ops Q l a w
def HQ (Q : Exit → Act → World → Prop) (e : Exit) (n : Fz) (s : Sl) (M : As) : Prop := ∀ a w, Fr n s a → M w → Q e a w
variable {Q Q' : Exit → Act → World → Prop}

theorem HC.weak {c : Code} {s' : Sl} {M' : As} (h : HC P c Q n s' M') (hs : Sub s' s) (hM : ∀ w, M w → M' w) : HC P c Q n s M := fun a w hf hm => h a w (hf.sub hs) (hM w hm)
theorem HQ.weak {e : Exit} {s' : Sl} {M' : As} (h : HQ Q e n s' M') (hs : Sub s' s) (hM : ∀ w, M w → M' w) : HQ Q e n s M := fun a w hf hm => h a w (hf.sub hs) (hM w hm)
theorem HC.pre {c : Code} {p : Prop} (hp : ∀ w, M w → p) (h : p → HC P c Q n s M) : HC P c Q n s M := fun a w hf hm => h (hp w hm) a w hf hm
theorem HL.pre {ops : Array Oper} {l : List Oper} {p : Prop} (hp : ∀ w, M w → p) (h : p → HL P ops Q l n s M) : HL P ops Q l n s M := fun a w hf hm => h (hp w hm) a w hf hm

theorem hc_seq {x y : Code} (h : HC P x (Exit.then (y.wp P Q) Q) n s M) : HC P (.seq x y) Q n s M := fun a w hf hm => wp_seq (h a w hf hm)
theorem hc_block {i : Nat} {c : Code} (h : HC P c (Exit.inBlock i Q) n s M) : HC P (.block i c) Q n s M := fun a w hf hm => wp_block (h a w hf hm)
theorem hc_skip (h : HQ Q .normal n s M) : HC P .skip Q n s M := fun a w hf hm => wp_skip (h a w hf hm)
theorem hc_label {l : Nat} (h : HQ Q .normal n s M) : HC P (.label l) Q n s M := fun a w hf hm => wp_label (h a w hf hm)
theorem hc_exit {i : Nat} (h : HQ Q (.exit i) n s M) : HC P (.exit i) Q n s M := fun a w hf hm => wp_exit (h a w hf hm)
theorem hc_ret (h : HQ Q .ret n s M) : HC P .ret Q n s M := fun a w hf hm => wp_ret (h a w hf hm)
theorem hc_region {i : Nat} {l : List Oper} (h : HL P l.toArray Q l n s M) : HC P (.region i l.toArray false) Q n s M := fun a w hf hm => wp_region_lit (h a w hf hm)
theorem hc_if {c : Operand} {x y : Code} {t : Bool} (hc : ev s c = some (.bool t)) (h1 : t = true → HC P x Q n s M) (h2 : t = false → HC P y Q n s M) : HC P (.cond c x y) Q n s M := fun a w hf hm =>
  wp_cond_split (hf.eval hc) (fun e => h1 e a w hf hm) (fun e => h2 e a w hf hm)
theorem hc_ifT {c : Operand} {x y : Code} (hc : ev s c = some (.bool true)) (h1 : HC P x Q n s M) : HC P (.cond c x y) Q n s M := fun a w hf hm => wp_cond_true (hf.eval hc) (h1 a w hf hm)
theorem hc_ifF {c : Operand} {x y : Code} (hc : ev s c = some (.bool false)) (h1 : HC P y Q n s M) : HC P (.cond c x y) Q n s M := fun a w hf hm => wp_cond_false (hf.eval hc) (h1 a w hf hm)

theorem hq_then {y : Code} (h : HC P y Q' n s M) : HQ (Exit.then (y.wp P Q') Q') .normal n s M := h
theorem hq_then_exit {K : Act → World → Prop} {i : Nat} (h : HQ Q' (.exit i) n s M) : HQ (Exit.then K Q') (.exit i) n s M := h
theorem hq_then_ret {K : Act → World → Prop} (h : HQ Q' .ret n s M) : HQ (Exit.then K Q') .ret n s M := h
theorem hq_in {i : Nat} (h : HQ Q' .normal n s M) : HQ (Exit.inBlock i Q') .normal n s M := h
theorem hq_in_ret {i : Nat} (h : HQ Q' .ret n s M) : HQ (Exit.inBlock i Q') .ret n s M := h
theorem hq_in_same {i : Nat} (h : HQ Q' .normal n s M) : HQ (Exit.inBlock i Q') (.exit i) n s M := fun a w hf hm => by simpa only [Exit.inBlock, if_true] using h a w hf hm
theorem hq_in_other {i j : Nat} (hne : Nat.beq j i = false) (h : HQ Q' (.exit j) n s M) : HQ (Exit.inBlock i Q') (.exit j) n s M := fun a w hf hm => by
  have : j ≠ i := Nat.ne_of_beq_eq_false hne
  simpa only [Exit.inBlock, this, if_false] using h a w hf hm

/-! A loop: x is what turns from round to round. -/
def LQ {ι : Type} (pre : ι → Prop) (μ : ι → Nat) (sf : ι → Sl) (Mf : ι → As) (n : Fz) (x : ι) (Q : Exit → Act → World → Prop) : Exit → Act → World → Prop :=
  Exit.then (fun a w => ∃ y, μ y < μ x ∧ pre y ∧ Fr n (sf y) a ∧ Mf y w) Q
theorem hc_loop {ι : Type} {c : Code} (pre : ι → Prop) (μ : ι → Nat) (sf : ι → Sl) (Mf : ι → As) (x0 : ι) (h0 : pre x0) (hs : Sub (sf x0) s) (hM : ∀ w, M w → Mf x0 w)
    (h : ∀ x, pre x → HC P c (LQ pre μ sf Mf n x Q) n (sf x) (Mf x)) : HC P (.loop c) Q n s M := by
  intro a w hf hm b k cs
  have key : ∀ m x a w, μ x = m → pre x → Fr n (sf x) a → Mf x w →
      ∃ e a' w', Q e a' w' ∧ Arrives P (lone (b.at a (.code c :: .inLoop c :: k)) cs w) b k cs e a' w' := by
    intro m
    induction m using Nat.strongRecOn with
    | _ m ih =>
      intro x a w hx hp hfr hmf
      obtain ⟨e, a₁, w₁, hq, harr⟩ := h x hp a w hfr hmf b (.inLoop c :: k) cs
      cases e with
      | normal =>
        obtain ⟨y, hlt, hpy, hfy, hmy⟩ := hq
        obtain ⟨e₂, a₂, w₂, hq₂, harr₂⟩ := ih (μ y) (hx ▸ hlt) y a₁ w₁ rfl hpy hfy hmy
        exact ⟨e₂, a₂, w₂, hq₂, .of_steps (Steps.trans harr (.one step_inLoop)) harr₂⟩
      | exit i => exact ⟨_, a₁, w₁, hq, .pass (x := .inLoop c) rfl (fun _ _ => .inl (by simp)) harr⟩
      | goto l => exact ⟨_, a₁, w₁, hq, .pass (x := .inLoop c) rfl (fun _ _ => .inl (by simp)) harr⟩
      | ret => exact ⟨_, a₁, w₁, hq, .pass (x := .inLoop c) rfl (fun _ _ => .inl (by simp)) harr⟩
      | panic ch => exact ⟨_, a₁, w₁, hq, .pass (x := .inLoop c) rfl (fun _ _ => .inl (by simp)) harr⟩
      | outgrown => exact ⟨_, a₁, w₁, hq, .pass (x := .inLoop c) rfl (fun _ _ => .inl (by simp)) harr⟩
  obtain ⟨e, a', w', hq, harr⟩ := key _ x0 a w rfl h0 (hf.sub hs) (hM w hm)
  exact ⟨e, a', w', hq, .of_steps (.one step_loop) harr⟩
/-! The same with two and three things that turn. -/
def LQ2 {α β : Type} (pre : α → β → Prop) (μ : α → β → Nat) (sf : α → β → Sl) (Mf : α → β → As) (n : Fz) (x : α) (x' : β) (Q : Exit → Act → World → Prop) : Exit → Act → World → Prop :=
  Exit.then (fun a w => ∃ y y', μ y y' < μ x x' ∧ pre y y' ∧ Fr n (sf y y') a ∧ Mf y y' w) Q
theorem hc_loop2 {α β : Type} {c : Code} (pre : α → β → Prop) (μ : α → β → Nat) (sf : α → β → Sl) (Mf : α → β → As) (x0 : α) (x0' : β) (h0 : pre x0 x0') (hs : Sub (sf x0 x0') s) (hM : ∀ w, M w → Mf x0 x0' w)
    (h : ∀ x x', pre x x' → HC P c (LQ2 pre μ sf Mf n x x' Q) n (sf x x') (Mf x x')) : HC P (.loop c) Q n s M :=
  hc_loop (ι := α × β) (fun x => pre x.1 x.2) (fun x => μ x.1 x.2) (fun x => sf x.1 x.2) (fun x => Mf x.1 x.2) (x0, x0') h0 hs hM fun x hp a w hf hm =>
    wp_mono (h x.1 x.2 hp a w hf hm) fun e a w hq => by
      cases e with
      | normal => obtain ⟨y, y', h1, h2, h3, h4⟩ := hq; exact ⟨(y, y'), h1, h2, h3, h4⟩
      | _ => exact hq
def LQ3 {α β γ : Type} (pre : α → β → γ → Prop) (μ : α → β → γ → Nat) (sf : α → β → γ → Sl) (Mf : α → β → γ → As) (n : Fz) (x : α) (x' : β) (x'' : γ) (Q : Exit → Act → World → Prop) : Exit → Act → World → Prop :=
  Exit.then (fun a w => ∃ y y' y'', μ y y' y'' < μ x x' x'' ∧ pre y y' y'' ∧ Fr n (sf y y' y'') a ∧ Mf y y' y'' w) Q
theorem hc_loop3 {α β γ : Type} {c : Code} (pre : α → β → γ → Prop) (μ : α → β → γ → Nat) (sf : α → β → γ → Sl) (Mf : α → β → γ → As) (x0 : α) (x0' : β) (x0'' : γ) (h0 : pre x0 x0' x0'') (hs : Sub (sf x0 x0' x0'') s) (hM : ∀ w, M w → Mf x0 x0' x0'' w)
    (h : ∀ x x' x'', pre x x' x'' → HC P c (LQ3 pre μ sf Mf n x x' x'' Q) n (sf x x' x'') (Mf x x' x'')) : HC P (.loop c) Q n s M :=
  hc_loop (ι := α × β × γ) (fun x => pre x.1 x.2.1 x.2.2) (fun x => μ x.1 x.2.1 x.2.2) (fun x => sf x.1 x.2.1 x.2.2) (fun x => Mf x.1 x.2.1 x.2.2) (x0, x0', x0'') h0 hs hM fun x hp a w hf hm =>
    wp_mono (h x.1 x.2.1 x.2.2 hp a w hf hm) fun e a w hq => by
      cases e with
      | normal => obtain ⟨y, y', y'', h1, h2, h3, h4⟩ := hq; exact ⟨(y, y', y''), h1, h2, h3, h4⟩
      | _ => exact hq
theorem hq_round2 {α β : Type} {pre : α → β → Prop} {μ : α → β → Nat} {sf : α → β → Sl} {Mf : α → β → As} {x : α} {x' : β} (y : α) (y' : β) (hμ : μ y y' < μ x x') (hp : pre y y') (hs : Sub (sf y y') s) (hM : ∀ w, M w → Mf y y' w) :
    HQ (LQ2 pre μ sf Mf n x x' Q) .normal n s M := fun _ w hf hm => ⟨y, y', hμ, hp, hf.sub hs, hM w hm⟩
theorem hq_loop_exit2 {α β : Type} {pre : α → β → Prop} {μ : α → β → Nat} {sf : α → β → Sl} {Mf : α → β → As} {x : α} {x' : β} {i : Nat} (h : HQ Q (.exit i) n s M) : HQ (LQ2 pre μ sf Mf n x x' Q) (.exit i) n s M := h
theorem hq_loop_ret2 {α β : Type} {pre : α → β → Prop} {μ : α → β → Nat} {sf : α → β → Sl} {Mf : α → β → As} {x : α} {x' : β} (h : HQ Q .ret n s M) : HQ (LQ2 pre μ sf Mf n x x' Q) .ret n s M := h
theorem hq_round3 {α β γ : Type} {pre : α → β → γ → Prop} {μ : α → β → γ → Nat} {sf : α → β → γ → Sl} {Mf : α → β → γ → As} {x : α} {x' : β} {x'' : γ} (y : α) (y' : β) (y'' : γ) (hμ : μ y y' y'' < μ x x' x'') (hp : pre y y' y'') (hs : Sub (sf y y' y'') s) (hM : ∀ w, M w → Mf y y' y'' w) :
    HQ (LQ3 pre μ sf Mf n x x' x'' Q) .normal n s M := fun _ w hf hm => ⟨y, y', y'', hμ, hp, hf.sub hs, hM w hm⟩
theorem hq_loop_exit3 {α β γ : Type} {pre : α → β → γ → Prop} {μ : α → β → γ → Nat} {sf : α → β → γ → Sl} {Mf : α → β → γ → As} {x : α} {x' : β} {x'' : γ} {i : Nat} (h : HQ Q (.exit i) n s M) : HQ (LQ3 pre μ sf Mf n x x' x'' Q) (.exit i) n s M := h
theorem hq_loop_ret3 {α β γ : Type} {pre : α → β → γ → Prop} {μ : α → β → γ → Nat} {sf : α → β → γ → Sl} {Mf : α → β → γ → As} {x : α} {x' : β} {x'' : γ} (h : HQ Q .ret n s M) : HQ (LQ3 pre μ sf Mf n x x' x'' Q) .ret n s M := h
theorem hq_round {ι : Type} {pre : ι → Prop} {μ : ι → Nat} {sf : ι → Sl} {Mf : ι → As} {x : ι} (y : ι) (hμ : μ y < μ x) (hp : pre y) (hs : Sub (sf y) s) (hM : ∀ w, M w → Mf y w) :
    HQ (LQ pre μ sf Mf n x Q) .normal n s M := fun _ w hf hm => ⟨y, hμ, hp, hf.sub hs, hM w hm⟩
theorem hq_loop_exit {ι : Type} {pre : ι → Prop} {μ : ι → Nat} {sf : ι → Sl} {Mf : ι → As} {x : ι} {i : Nat} (h : HQ Q (.exit i) n s M) : HQ (LQ pre μ sf Mf n x Q) (.exit i) n s M := h
theorem hq_loop_ret {ι : Type} {pre : ι → Prop} {μ : ι → Nat} {sf : ι → Sl} {Mf : ι → As} {x : ι} (h : HQ Q .ret n s M) : HQ (LQ pre μ sf Mf n x Q) .ret n s M := h

/-! Scopes: without a jump, and with jumps back to one label. -/
theorem hc_scope {c : Code} (h : HC P c (Exit.noGoto Q) n s M) : HC P (.scope c) Q n s M := fun a w hf hm => wp_scope_straight (h a w hf hm)
theorem hq_scope (h : HQ Q .normal n s M) : HQ (Exit.noGoto Q) .normal n s M := h
theorem hq_scope_ret (h : HQ Q .ret n s M) : HQ (Exit.noGoto Q) .ret n s M := h
theorem hq_scope_exit {i : Nat} (h : HQ Q (.exit i) n s M) : HQ (Exit.noGoto Q) (.exit i) n s M := h
theorem hc_goto {l : Nat} (h : HQ Q (.goto l) n s M) : HC P (.goto l) Q n s M := fun a w hf hm => wp_goto (h a w hf hm)
theorem hq_then_goto {K : Act → World → Prop} {i : Nat} (h : HQ Q' (.goto i) n s M) : HQ (Exit.then K Q') (.goto i) n s M := h
theorem hq_in_goto {i j : Nat} (h : HQ Q' (.goto j) n s M) : HQ (Exit.inBlock i Q') (.goto j) n s M := h
def JQ0 {ι : Type} (l : Nat) (pre : ι → Prop) (sf : ι → Sl) (Mf : ι → As) (n : Fz) (Q : Exit → Act → World → Prop) : Exit → Act → World → Prop := Exit.jump l (fun a w => ∃ y, pre y ∧ Fr n (sf y) a ∧ Mf y w) Q
def JQ {ι : Type} (l : Nat) (pre : ι → Prop) (μ : ι → Nat) (sf : ι → Sl) (Mf : ι → As) (n : Fz) (x : ι) (Q : Exit → Act → World → Prop) : Exit → Act → World → Prop := Exit.jump l (fun a w => ∃ y, μ y < μ x ∧ pre y ∧ Fr n (sf y) a ∧ Mf y w) Q
theorem hc_jumps {ι : Type} {c rest : Code} (l : Nat) (hf : findLabel c l = some rest) (pre : ι → Prop) (μ : ι → Nat) (sf : ι → Sl) (Mf : ι → As) (first : HC P c (JQ0 l pre sf Mf n Q) n s M)
    (pass : ∀ x, pre x → HC P rest (JQ l pre μ sf Mf n x Q) n (sf x) (Mf x)) : HC P (.scope c) Q n s M := by
  intro a w hfr hm b k cs
  have hg : gotoIn l (.inScope c :: k) = some (.code rest :: .inScope c :: k) := by simp [gotoIn, hf]
  have key : ∀ m x a w, μ x = m → pre x → Fr n (sf x) a → Mf x w → ∃ e a' w', Q e a' w' ∧ Arrives P (lone (b.at a (.code rest :: .inScope c :: k)) cs w) b k cs e a' w' := by
    intro m
    induction m using Nat.strongRecOn with
    | _ m ih =>
      intro x a w hx hp hfx hmx
      obtain ⟨e, a₁, w₁, hq, harr⟩ := pass x hp a w hfx hmx b (.inScope c :: k) cs
      cases e with
      | normal => exact ⟨.normal, a₁, w₁, hq, Steps.trans harr (.one step_inScope)⟩
      | exit id => exact ⟨.exit id, a₁, w₁, hq, fun k' hk => harr k' (by simp [exitTo, hk])⟩
      | goto l' =>
        obtain ⟨rfl, y, hlt, hpy, hfy, hmy⟩ := hq
        obtain ⟨e₂, a₂, w₂, hq₂, harr₂⟩ := ih _ (hx ▸ hlt) y a₁ w₁ rfl hpy hfy hmy
        exact ⟨e₂, a₂, w₂, hq₂, .of_steps (harr _ hg) harr₂⟩
      | ret => exact ⟨_, a₁, w₁, hq, harr⟩
      | panic ch => exact ⟨_, a₁, w₁, hq, harr⟩
      | outgrown => exact ⟨_, a₁, w₁, hq, harr⟩
  obtain ⟨e, a₁, w₁, hq, harr⟩ := first a w hfr hm b (.inScope c :: k) cs
  cases e with
  | normal => exact ⟨.normal, a₁, w₁, hq, .head step_scope (Steps.trans harr (.one step_inScope))⟩
  | exit id => exact ⟨.exit id, a₁, w₁, hq, fun k' hk => .head step_scope (harr k' (by simp [exitTo, hk]))⟩
  | goto l' =>
    obtain ⟨rfl, y, hpy, hfy, hmy⟩ := hq
    obtain ⟨e₂, a₂, w₂, hq₂, harr₂⟩ := key _ y a₁ w₁ rfl hpy hfy hmy
    exact ⟨e₂, a₂, w₂, hq₂, .of_steps (.head step_scope (harr _ hg)) harr₂⟩
  | ret => exact ⟨_, a₁, w₁, hq, .of_steps (.one step_scope) harr⟩
  | panic ch => exact ⟨_, a₁, w₁, hq, .of_steps (.one step_scope) harr⟩
  | outgrown => exact ⟨_, a₁, w₁, hq, .of_steps (.one step_scope) harr⟩
theorem hq_jump0 {ι : Type} {l : Nat} {pre : ι → Prop} {sf : ι → Sl} {Mf : ι → As} (y : ι) (hp : pre y) (hs : Sub (sf y) s) (hM : ∀ w, M w → Mf y w) : HQ (JQ0 l pre sf Mf n Q) (.goto l) n s M := fun _ w hf hm => ⟨rfl, y, hp, hf.sub hs, hM w hm⟩
theorem hq_jump {ι : Type} {l : Nat} {pre : ι → Prop} {μ : ι → Nat} {sf : ι → Sl} {Mf : ι → As} {x : ι} (y : ι) (hμ : μ y < μ x) (hp : pre y) (hs : Sub (sf y) s) (hM : ∀ w, M w → Mf y w) : HQ (JQ l pre μ sf Mf n x Q) (.goto l) n s M := fun _ w hf hm => ⟨rfl, y, hμ, hp, hf.sub hs, hM w hm⟩
theorem hq_jump0_ret {ι : Type} {l : Nat} {pre : ι → Prop} {sf : ι → Sl} {Mf : ι → As} (h : HQ Q .ret n s M) : HQ (JQ0 l pre sf Mf n Q) .ret n s M := h
theorem hq_jump_ret {ι : Type} {l : Nat} {pre : ι → Prop} {μ : ι → Nat} {sf : ι → Sl} {Mf : ι → As} {x : ι} (h : HQ Q .ret n s M) : HQ (JQ l pre μ sf Mf n x Q) .ret n s M := h

/-! Lists of operations. -/
theorem hl_nil {ops : Array Oper} (h : HQ Q .normal n s M) : HL P ops Q [] n s M := h
/-- What an operation yields in whatever world that meets M, the world left as it is. -/
def Yl (P : Program) (s : Sl) (M : As) (o : Oper) (v : Value) : Prop :=
  ∀ a : Act, (∀ x u, ev s x = some u → a.eval x = u) → ∀ w, M w → (execOp a.eval o).run P w = .ok (.value v) w
theorem hl_y {ops : Array Oper} {o : Oper} {rest : List Oper} {v : Value} {d : Nat} (hg : o.guard = none) (hd : o.dst = some d) (hn : Nat.blt d n.n = true)
    (hy : Yl P s M o v) (h : HL P ops Q rest n ((d, v) :: s) M) : HL P ops Q (o :: rest) n s M := fun a w hf hm =>
  wpList_plain hg fun K hK => by
    unfold Oper.wp
    rw [hy a (fun x u hx => hf.eval hx) w hm, Oper.upon_value, hd]
    exact hK _ _ (h _ w (hf.put hn v) hm)
/-- Wanted by its guard, which stands as a Bool in a slot. -/
theorem wanted_of {ops : Array Oper} {o : Oper} {a : Act} {j t : Nat} {b : Bool} (hf : Fr n s a) (hg : o.guard = some (j, b)) (hj : (ops[j]?).bind (·.dst) = some t) {c : Bool} (hb : lk s t = some (.bool c)) :
    Region.wanted o (yielded ops a.tmps) = (c == b) := by
  have h1 := hf.get t _ hb
  simp [Region.wanted, hg, yielded, hj, h1]
theorem hl_yg {ops : Array Oper} {o : Oper} {rest : List Oper} {v : Value} {d : Nat} (j t : Nat) (b : Bool) (hg : o.guard = some (j, b)) (hj : (ops[j]?).bind (·.dst) = some t) (hb : lk s t = some (.bool b))
    (hd : o.dst = some d) (hn : Nat.blt d n.n = true)
    (hy : Yl P s M o v) (h : HL P ops Q rest n ((d, v) :: s) M) : HL P ops Q (o :: rest) n s M := fun a w hf hm =>
  wpList_step fun K hK => by
    have hw := wanted_of hf hg hj hb
    rw [hw]
    simp only [beq_self_eq_true, if_true]
    unfold Oper.wp
    rw [hy a (fun x u hx => hf.eval hx) w hm, Oper.upon_value, hd]
    exact hK _ _ (h _ w (hf.put hn v) hm)
/-- Not wanted: its slot holds nothing that is read. -/
theorem hl_no {ops : Array Oper} {o : Oper} {rest : List Oper} {d : Nat} (j t : Nat) (b c : Bool) (hg : o.guard = some (j, b)) (hj : (ops[j]?).bind (·.dst) = some t) (hb : lk s t = some (.bool c)) (hbc : (c == b) = false)
    (hd : o.dst = some d) (hn : Nat.blt d n.n = true) (h : HL P ops Q rest n ((d, undef) :: s) M) : HL P ops Q (o :: rest) n s M := fun a w hf hm =>
  wpList_step fun K hK => by
    have hw := wanted_of hf hg hj hb
    rw [hw, hbc, hd]
    exact hK _ _ (h _ w (hf.put hn undef) hm)
/-- An operation that acts: told by what it does to K. -/
def Ef (P : Program) (s : Sl) (M : As) (o : Oper) (R : Value → As) : Prop :=
  ∀ (a : Act), (∀ x u, ev s x = some u → a.eval x = u) → ∀ w, M w → ∀ (K : Act → World → Prop) (Q : Exit → Act → World → Prop),
    (∀ v w', R v w' → K (a.put o.dst v) w') → o.wp P a w K Q
theorem hl_e {ops : Array Oper} {o : Oper} {rest : List Oper} {R : Value → As} {d : Nat} (hg : o.guard = none) (hd : o.dst = some d) (hn : Nat.blt d n.n = true)
    (he : Ef P s M o R) (h : ∀ v, HL P ops Q rest n ((d, v) :: s) (R v)) : HL P ops Q (o :: rest) n s M := fun a w hf hm =>
  wpList_plain hg fun K hK => he a (fun x u hx => hf.eval hx) w hm K Q fun v w' hr => by
    rw [hd]
    exact hK _ _ (h v _ w' (hf.put hn v) hr)
theorem hl_e0 {ops : Array Oper} {o : Oper} {rest : List Oper} {R : Value → As} {M' : As} (hg : o.guard = none) (hd : o.dst = none)
    (he : Ef P s M o R) (hR : ∀ v w, R v w → M' w) (h : HL P ops Q rest n s M') : HL P ops Q (o :: rest) n s M := fun a w hf hm =>
  wpList_plain hg fun K hK => he a (fun x u hx => hf.eval hx) w hm K Q fun v w' hr => by
    rw [hd]
    exact hK _ _ (h _ w' hf (hR v w' hr))
theorem hl_eg {ops : Array Oper} {o : Oper} {rest : List Oper} {R : Value → As} {d : Nat} (j t : Nat) (b : Bool) (hg : o.guard = some (j, b)) (hj : (ops[j]?).bind (·.dst) = some t) (hb : lk s t = some (.bool b))
    (hd : o.dst = some d) (hn : Nat.blt d n.n = true)
    (he : Ef P s M o R) (h : ∀ v, HL P ops Q rest n ((d, v) :: s) (R v)) : HL P ops Q (o :: rest) n s M := fun a w hf hm =>
  wpList_step fun K hK => by
    have hw := wanted_of hf hg hj hb
    rw [hw]
    simp only [beq_self_eq_true, if_true]
    refine he a (fun x u hx => hf.eval hx) w hm K Q fun v w' hr => ?_
    rw [hd]
    exact hK _ _ (h v _ w' (hf.put hn v) hr)
end
end Go.Proofs.YtcdidapkpfnphaaDoor
