/- Pieces, loops, functions, and how a law follows from its contract. -/
import Derived.Scope
import Derived.LoopN
import Derived.Tactics
import Derived.ChangeShapes
import Derived.ChangeArms
import Derived.SizedLaws
import Derived.WideShapes
import Derived.Carry
import Derived.Handed
import Derived.RowKit
import Derived.Test.YtcongaiganloaaaKc
import Derived.Test.YtcongaiganloaaaKd
set_option linter.unusedVariables false
set_option linter.unusedSimpArgs false
set_option linter.unusedSectionVars false
set_option linter.unnecessarySimpa false
set_option linter.deprecated false
set_option maxRecDepth 100000
/- What is handed to a piece, and what it hands back. -/
namespace Go.XD

theorem RepQ.len {W : World} {G : Nat → Prop} : ∀ {p : CP} {x : p.T} {vs : List Value} {bl : List (List (Nat × Nat))}, RepQ W G p x vs bl → bl.length = p.cnt
  | .val t, x, vs, bl, h => by obtain ⟨v, _, rfl, _⟩ := h; rfl
  | .iv _ _, x, vs, bl, h => by obtain ⟨v, _, rfl, _⟩ := h; rfl
  | .cst p, x, vs, bl, h => by obtain ⟨_, rfl⟩ := h; rfl
  | .gi, x, vs, bl, h => by obtain ⟨_, rfl⟩ := h; rfl
  | .own e, x, vs, bl, h => by obtain ⟨v, o, _, rfl, _⟩ := h; rfl
  | .arr c, x, vs, bl, h => by obtain ⟨v, o, _, rfl, _⟩ := h; rfl
  | .opt c, x, vs, bl, h => by obtain ⟨v, o, _, rfl, _⟩ := h; rfl
  | .mp _ _, x, vs, bl, h => by obtain ⟨g, arr, _, rfl, _⟩ := h; rfl
  | .hol _ _, x, vs, bl, h => by obtain ⟨v, g, cap, us, t, bls, _, rfl, _⟩ := h; rfl
  | .ptr off c, x, vs, bl, h => by
    obtain ⟨g, cc, us, t, bl', _, rfl, _, h⟩ := h
    simp only [List.length_cons, CP.cnt, h.len]
  | .ip t0 c, x, vs, bl, h => by
    obtain ⟨g, cc, us, t, bl', _, rfl, _, h⟩ := h
    simp only [List.length_cons, CP.cnt, h.len]
  | .clo f c, x, vs, bl, h => by
    obtain ⟨us, _, h⟩ := h
    simp only [CP.cnt, h.len]
  | .ag c, x, vs, bl, h => by
    obtain ⟨us, _, h⟩ := h
    simp only [CP.cnt, h.len]
  | .nil, x, vs, bl, h => by obtain ⟨_, rfl⟩ := h; rfl
  | .cons a b, x, vs, bl, h => by
    obtain ⟨v, w, b1, b2, _, rfl, h1, h2⟩ := h
    simp only [List.length_append, CP.cnt, h1.len, h2.len]

theorem RepQ.mono {W : World} {G G' : Nat → Prop} (hG : ∀ b, G b → G' b) {p : CP} {x : p.T} {vs : List Value} {bl : List (List (Nat × Nat))} (h : RepQ W G p x vs bl) : RepQ W G' p x vs bl :=
  h.keep (fun _ _ => rfl) hG (fun _ _ _ _ => rfl)

theorem scat_n : ∀ (p : CP) (x : p.T) (n : Nat), (scat p x n).n = n + p.cnt
  | .val _, _, _ => rfl
  | .iv _ _, _, _ => rfl
  | .cst _, _, _ => rfl
  | .gi, _, _ => rfl
  | .own _, _, _ => rfl
  | .arr _, _, _ => rfl
  | .opt _, _, _ => rfl
  | .mp _ _, _, _ => rfl
  | .hol _ _, _, _ => rfl
  | .ptr off c, x, n => by
    have := scat_n c x (n + 1)
    simp only [scat, CP.cnt]
    omega
  | .ip t0 c, x, n => by
    have := scat_n c x (n + 1)
    simp only [scat, CP.cnt]
    omega
  | .clo f c, x, n => by
    have := scat_n c x n
    simp only [scat, CP.cnt]
    omega
  | .ag c, x, n => by
    have := scat_n c x n
    simp only [scat, CP.cnt]
    omega
  | .nil, _, _ => rfl
  | .cons a b, x, n => by
    have h1 := scat_n a x.1 n
    have h2 := scat_n b x.2 (scat a x.1 n).n
    simp only [scat, CP.cnt]
    omega

theorem getM_app : ∀ (m m' : List (Nat × Option Ob)) (id : Nat), getM (m ++ m') id = match m.any (fun p => Nat.beq p.1 id) with
    | true => getM m id
    | false => getM m' id
  | [], m', id => rfl
  | (k, o) :: r, m', id => by
    simp only [List.cons_append, getM, List.any_cons]
    cases h : Nat.beq k id with
    | true => simp
    | false => simp only [Bool.false_or]; exact getM_app r m' id

/-- The keys are the numbers. -/
theorem scat_key : ∀ (p : CP) (x : p.T) (n id : Nat), (scat p x n).m.any (fun q => Nat.beq q.1 id) = true ↔ n ≤ id ∧ id < n + p.cnt
  | .cst _, _, n, id => by
    simp only [scat, CP.cnt, List.any_nil]
    constructor
    · intro h; cases h
    · intro h; omega
  | .gi, _, n, id => by
    simp only [scat, CP.cnt, List.any_nil]
    constructor
    · intro h; cases h
    · intro h; omega
  | .val _, _, n, id => by
    simp only [scat, CP.cnt, List.any_nil]
    constructor
    · intro h; cases h
    · intro h; omega
  | .iv _ _, _, n, id => by
    simp only [scat, CP.cnt, List.any_nil]
    constructor
    · intro h; cases h
    · intro h; omega
  | .own _, _, n, id => by
    simp only [scat, CP.cnt, List.any_cons, List.any_nil, Bool.or_false, Nat.beq_eq]
    omega
  | .arr _, _, n, id => by
    simp only [scat, CP.cnt, List.any_cons, List.any_nil, Bool.or_false, Nat.beq_eq]
    omega
  | .opt _, _, n, id => by
    simp only [scat, CP.cnt, List.any_cons, List.any_nil, Bool.or_false, Nat.beq_eq]
    omega
  | .hol _ _, _, n, id => by
    simp only [scat, CP.cnt, List.any_cons, List.any_nil, Bool.or_false, Nat.beq_eq]
    omega
  | .mp _ _, _, n, id => by
    simp only [scat, CP.cnt, List.any_cons, List.any_nil, Bool.or_false, Nat.beq_eq]
    omega
  | .ptr off c, x, n, id => by
    have := scat_key c x (n + 1) id
    simp only [scat, CP.cnt, List.any_cons, Bool.or_eq_true, Nat.beq_eq]
    rw [this]
    omega
  | .ip t0 c, x, n, id => by
    have := scat_key c x (n + 1) id
    simp only [scat, CP.cnt, List.any_cons, Bool.or_eq_true, Nat.beq_eq]
    rw [this]
    omega
  | .clo f c, x, n, id => by
    have := scat_key c x n id
    simp only [scat]
    rw [this]
    rfl
  | .ag c, x, n, id => by
    have := scat_key c x n id
    simp only [scat]
    rw [this]
    rfl
  | .nil, _, n, id => by
    simp only [scat, CP.cnt, List.any_nil]
    constructor
    · intro h; cases h
    · intro h; omega
  | .cons a b, x, n, id => by
    have h1 := scat_key a x.1 n id
    have h2 := scat_key b x.2 (scat a x.1 n).n id
    have h3 := scat_n a x.1 n
    simp only [scat, CP.cnt, List.any_append, Bool.or_eq_true]
    rw [h1, h2]
    omega
theorem scat_keyT (p : CP) (x : p.T) {n id : Nat} (h : n ≤ id ∧ id < n + p.cnt) : (scat p x n).m.any (fun q => Nat.beq q.1 id) = true := (scat_key p x n id).2 h
theorem scat_keyF (p : CP) (x : p.T) {n id : Nat} (h : ¬ (n ≤ id ∧ id < n + p.cnt)) : (scat p x n).m.any (fun q => Nat.beq q.1 id) = false := by
  rw [Bool.eq_false_iff]
  exact fun e => h ((scat_key p x n id).1 e)
theorem getM_some : ∀ {m : List (Nat × Option Ob)} {id : Nat} {ob : Ob}, getM m id = some ob → m.any (fun q => Nat.beq q.1 id) = true
  | [], _, _, h => by simp [getM] at h
  | (k, o) :: r, id, ob, h => by
    simp only [getM, List.any_cons] at h ⊢
    cases hk : Nat.beq k id with
    | true => rfl
    | false =>
      rw [hk] at h
      simpa using getM_some h
theorem scat_some (p : CP) (x : p.T) (n : Nat) {id : Nat} {ob : Ob} (h : getM (scat p x n).m id = some ob) : n ≤ id ∧ id < n + p.cnt := by
  exact (scat_key p x n id).1 (getM_some h)

theorem getM_has : ∀ {m : List (Nat × Option Ob)} {id : Nat}, (∀ q ∈ m, q.2 ≠ none) → m.any (fun q => Nat.beq q.1 id) = true → ∃ ob, getM m id = some ob
  | [], _, _, h => by simp at h
  | (k, o) :: r, id, hs, h => by
    simp only [List.any_cons, getM] at h ⊢
    cases hk : Nat.beq k id with
    | true =>
      cases o with
      | none => exact absurd rfl (hs _ List.mem_cons_self)
      | some ob => exact ⟨ob, rfl⟩
    | false =>
      rw [hk] at h
      exact getM_has (fun q hq => hs q (List.mem_cons_of_mem _ hq)) (by simpa using h)
theorem scat_full : ∀ (p : CP) (x : p.T) (n : Nat), ∀ q ∈ (scat p x n).m, q.2 ≠ none
  | .cst _, _, _, q, h => by simp [scat] at h
  | .gi, _, _, q, h => by simp [scat] at h
  | .val _, _, _, q, h => by simp [scat] at h
  | .iv _ _, _, _, q, h => by simp [scat] at h
  | .own _, _, _, q, h => by simp [scat] at h; subst h; simp
  | .arr _, _, _, q, h => by simp [scat] at h; subst h; simp
  | .opt _, _, _, q, h => by simp [scat] at h; subst h; simp
  | .mp _ _, _, _, q, h => by simp [scat] at h; subst h; simp
  | .hol _ _, _, _, q, h => by simp [scat] at h; subst h; simp
  | .ptr off c, x, n, q, h => by
    simp only [scat, List.mem_cons] at h
    rcases h with rfl | h
    · simp
    · exact scat_full c x _ q h
  | .ip t0 c, x, n, q, h => by
    simp only [scat, List.mem_cons] at h
    rcases h with rfl | h
    · simp
    · exact scat_full c x _ q h
  | .clo f c, x, n, q, h => scat_full c x n q h
  | .ag c, x, n, q, h => scat_full c x n q h
  | .nil, _, _, q, h => by simp [scat] at h
  | .cons a b, x, n, q, h => by
    simp only [scat, List.mem_append] at h
    rcases h with h | h
    · exact scat_full a x.1 _ q h
    · exact scat_full b x.2 _ q h
theorem scat_has (p : CP) (x : p.T) (n : Nat) {id : Nat} (h : (scat p x n).m.any (fun q => Nat.beq q.1 id) = true) : ∃ ob, getM (scat p x n).m id = some ob := getM_has (scat_full p x n) h

/-- No value of a pattern is told under a guard. -/
theorem scat_nogd : ∀ (p : CP) (x : p.T) (n : Nat), ∀ d ∈ (scat p x n).ds, d.isGd = false
  | .cst p, _, _, d, h => by simp [scat] at h; subst h; cases p <;> rfl
  | .gi, _, _, d, h => by simp [scat] at h; subst h; rfl
  | .val _, _, _, d, h => by simp [scat] at h; subst h; rfl
  | .iv _ _, _, _, d, h => by simp [scat] at h; subst h; rfl
  | .own _, _, _, d, h => by simp [scat] at h; subst h; rfl
  | .arr _, _, _, d, h => by simp [scat] at h; subst h; rfl
  | .opt _, _, _, d, h => by simp [scat] at h; subst h; rfl
  | .mp _ _, _, _, d, h => by simp [scat] at h; subst h; rfl
  | .hol _ _, _, _, d, h => by simp [scat] at h; subst h; rfl
  | .ptr off c, x, n, d, h => by simp [scat] at h; subst h; rfl
  | .ip t0 c, x, n, d, h => by simp [scat] at h; subst h; rfl
  | .clo f c, x, n, d, h => by simp [scat] at h; subst h; rfl
  | .ag c, x, n, d, h => by simp [scat] at h; subst h; rfl
  | .nil, _, _, d, h => by simp [scat] at h
  | .cons a b, x, n, d, h => by
    simp only [scat, List.mem_append] at h
    rcases h with h | h
    · exact scat_nogd a x.1 _ d h
    · exact scat_nogd b x.2 _ d h

/-- Between two numbers. -/
def btw (n k : Nat) : Nat → Prop := fun id => n ≤ id ∧ id < k

section
variable {W : World} {G : Nat → Prop} {get : Nat → Option Ob} {γ : Gam}

/-- The element that stands apart is told by its object. -/
def HoleR (W : World) (G : Nat → Prop) (get : Nat → Option Ob) (γ : Gam) (q : Nat × Nat) : Prop :=
  ∀ (c : CP) (xs : List c.T) (k : Nat) (d : D), get q.1 = some (.arr c xs (some (k, d))) → ∀ g cap r us t w y, γ q.1 = (g, cap) :: r → W.heap[g]? = some (.cells us t (0, 0)) → xs[k]? = some y → us[k]? = some w → RepD W.cell? G get γ (.sf q.2) w
/-- The values told, at objects so numbered. -/
theorem scat_rep : ∀ {p : CP} {x : p.T} {vs : List Value} {bl : List (List (Nat × Nat))} {n : Nat}, RepQ W G p x vs bl → (∀ j o, bl[j]? = some o → γ (n + j) = o) → (∀ id, n ≤ id → id < n + p.cnt → get id = getM (scat p x n).m id) → (∀ q ∈ p.hols n, HoleR W G get γ q) →
    RepDs W.cell? G get γ (scat p x n).ds vs ∧ ∀ id ob, getM (scat p x n).m id = some ob → ObRep W G get γ id ob
  | .gi, x, vs, bl, n, h, hg, hs, hh => by
    obtain ⟨⟨v, rfl⟩, rfl⟩ := h
    refine ⟨?_, fun id ob ho => by simp [scat, getM] at ho⟩
    simp only [scat, RepDs, RepD]
    exact ⟨v, [], rfl, trivial, rfl⟩
  | .cst p, x, vs, bl, n, h, hg, hs, hh => by
    obtain ⟨rfl, rfl⟩ := h
    refine ⟨?_, fun id ob ho => by simp [scat, getM] at ho⟩
    simp only [scat, RepDs]
    refine ⟨_, [], rfl, ?_, rfl⟩
    cases p <;> simp only [cond, RepD]
  | .val t, x, vs, bl, n, h, hg, hs, hh => by
    obtain ⟨v, rfl, rfl, h⟩ := h
    refine ⟨?_, fun id ob ho => by simp [scat, getM] at ho⟩
    simp only [scat, RepDs, RepD]
    exact ⟨v, [], rfl, h, rfl⟩
  | .iv t0 u, x, vs, bl, n, h, hg, hs, hh => by
    obtain ⟨v, rfl, rfl, h⟩ := h
    refine ⟨?_, fun id ob ho => by simp [scat, getM] at ho⟩
    simp only [scat, RepDs, RepD]
    exact ⟨_, [], rfl, ⟨v, rfl, h⟩, rfl⟩
  | .own e, xs, vs, bl, n, h, hg, hs, hh => by
    obtain ⟨v, o, rfl, rfl, h⟩ := h
    have h0 := hg 0 o rfl
    rw [Nat.add_zero] at h0
    have hs0 := hs n (Nat.le_refl _) (by simp [CP.cnt])
    have hm : getM (scat (.own e) xs n).m n = some (.buf e xs) := by
      simp only [scat]
      rw [getM_cons, if_pos rfl]
    rw [hm] at hs0
    refine ⟨?_, fun id ob ho => ?_⟩
    · simp only [scat, RepDs, RepD]
      refine ⟨v, [], rfl, ⟨?_, ?_⟩, rfl⟩
      · rcases h with ⟨_, _, a, rfl⟩ | ⟨g, c, us, t, _, rfl, _⟩ <;> rfl
      · rw [hs0]
        simp only
        rcases h with ⟨rfl, rfl, a, rfl⟩ | ⟨g, c, us, t, rfl, rfl, _⟩
        · exact .inr ⟨hd_nil h0, a, rfl⟩
        · exact .inl ⟨g, c, hd_one h0, rfl⟩
    · have hk := scat_some _ _ _ ho
      have e : id = n := by simp only [CP.cnt] at hk; omega
      subst e
      rw [hm] at ho
      simp only [Option.some.injEq] at ho
      subst ho
      simp only [ObRep]
      rcases h with ⟨rfl, rfl, a, rfl⟩ | ⟨g, c, us, t, rfl, rfl, h1, h2, h3, h4, h5⟩
      · exact .inl ⟨h0, rfl⟩
      · exact .inr ⟨g, c, us, t, h0, h1, h2, h3, h4, h5⟩
  | .arr c, xs, vs, bl, n, h, hg, hs, hh => by
    obtain ⟨v, o, rfl, rfl, h⟩ := h
    have h0 := hg 0 o rfl
    rw [Nat.add_zero] at h0
    have hs0 := hs n (Nat.le_refl _) (by simp [CP.cnt])
    have hm : getM (scat (.arr c) xs n).m n = some (.arr c xs none) := by
      simp only [scat]
      rw [getM_cons, if_pos rfl]
    rw [hm] at hs0
    refine ⟨?_, fun id ob ho => ?_⟩
    · simp only [scat, RepDs, RepD]
      refine ⟨v, [], rfl, ⟨?_, ?_⟩, rfl⟩
      · rcases h with ⟨_, _, a, rfl⟩ | ⟨g, cap, us, t, bls, _, rfl, _⟩ <;> rfl
      · rw [hs0]
        simp only
        rcases h with ⟨rfl, rfl, a, rfl⟩ | ⟨g, cap, us, t, bls, rfl, rfl, _⟩
        · exact .inr ⟨hd_nil h0, a, rfl⟩
        · exact .inl ⟨g, cap, by unfold hdG; rw [h0]; rfl, rfl⟩
    · have hk := scat_some _ _ _ ho
      have e : id = n := by simp only [CP.cnt] at hk; omega
      subst e
      rw [hm] at ho
      simp only [Option.some.injEq] at ho
      subst ho
      rcases h with ⟨rfl, rfl, a, rfl⟩ | ⟨g, cap, us, t, bls, rfl, rfl, h1, h2, h3, h4, h5, h6⟩
      · exact .inl ⟨h0, rfl, rfl⟩
      · exact .inr ⟨g, cap, us, t, bls, h0, h1, h2, h3, h4, h5, h6⟩
  | .hol c j, x, vs, bl, n, h, hg, hs, hh => by
    obtain ⟨v, g, cap, us, t, bls, rfl, rfl, h1, h2, h3, h4, h5, h6, h7⟩ := h
    have h0 := hg 0 _ rfl
    rw [Nat.add_zero] at h0
    have hs0 := hs n (Nat.le_refl _) (by simp [CP.cnt])
    have hm : getM (scat (.hol c j) x n).m n = some (.arr c x.1 (some (x.2, .sf j))) := by
      simp only [scat]
      rw [getM_cons, if_pos rfl]
    rw [hm] at hs0
    have hr := hh (n, j) (by simp [CP.hols])
    refine ⟨?_, fun id ob ho => ?_⟩
    · simp only [scat, RepDs, RepD]
      refine ⟨v, [], rfl, ⟨?_, ?_⟩, rfl⟩
      · rw [h1]; rfl
      · rw [hs0]
        exact .inl ⟨g, cap, by unfold hdG; rw [h0]; rfl, h1⟩
    · have hk := scat_some _ _ _ ho
      have e : id = n := by simp only [CP.cnt] at hk; omega
      subst e
      rw [hm] at ho
      simp only [Option.some.injEq] at ho
      subst ho
      refine .inr ⟨g, cap, us, t, bls, h0, h2, h3, h4, h5, h6, fun i y hy => ?_⟩
      obtain ⟨w, b, q1, q2, q3, q4⟩ := h7 i y hy
      refine ⟨w, b, q1, q2, fun e => ⟨q3 e, ?_⟩, q4⟩
      subst e
      exact hr c x.1 x.2 (.sf j) hs0 g cap _ us t w y h0 h2 hy q1
  | .mp k e, x, vs, bl, n, h, hg, hs, hh => by
    obtain ⟨g, arr, rfl, rfl, h1, h2⟩ := h
    have h0 := hg 0 _ rfl
    rw [Nat.add_zero] at h0
    have hs0 := hs n (Nat.le_refl _) (by simp [CP.cnt])
    have hm : getM (scat (.mp k e) x n).m n = some (.mp k e x.1 x.2) := by
      simp only [scat]
      rw [getM_cons, if_pos rfl]
    rw [hm] at hs0
    refine ⟨?_, fun id ob ho => ?_⟩
    · simp only [scat, RepDs, RepD]
      refine ⟨_, [], rfl, ⟨rfl, ?_⟩, rfl⟩
      rw [hs0]
      exact ⟨g, 0, hd_one h0, rfl⟩
    · have hk := scat_some _ _ _ ho
      have e : id = n := by simp only [CP.cnt] at hk; omega
      subst e
      rw [hm] at ho
      simp only [Option.some.injEq] at ho
      subst ho
      exact ⟨_, g, arr, rfl, by rw [h0], h1, h2⟩
  | .opt c, x, vs, bl, n, h, hg, hs, hh => by
    obtain ⟨v, o, rfl, rfl, h⟩ := h
    have h0 := hg 0 o rfl
    rw [Nat.add_zero] at h0
    have hs0 := hs n (Nat.le_refl _) (by simp [CP.cnt])
    have hm : getM (scat (.opt c) x n).m n = some (.opt c x) := by
      simp only [scat]
      rw [getM_cons, if_pos rfl]
    rw [hm] at hs0
    refine ⟨?_, fun id ob ho => ?_⟩
    · simp only [scat, RepDs, RepD]
      refine ⟨v, [], rfl, ⟨?_, ?_⟩, rfl⟩
      · rcases h with ⟨_, _, rfl⟩ | ⟨y, g, cap, us, t, b, _, _, rfl, _⟩ <;> rfl
      · rw [hs0]
        simp only
        rcases h with ⟨rfl, rfl, rfl⟩ | ⟨y, g, cap, us, t, b, rfl, rfl, rfl, _⟩
        · exact ⟨fun e => (by cases e), fun _ => rfl⟩
        · exact ⟨fun _ => ⟨g, cap, by unfold hdG; rw [h0]; rfl, rfl⟩, fun e => (by cases e)⟩
    · have hk := scat_some _ _ _ ho
      have e : id = n := by simp only [CP.cnt] at hk; omega
      subst e
      rw [hm] at ho
      simp only [Option.some.injEq] at ho
      subst ho
      refine ⟨v, ?_⟩
      rw [h0]
      exact ⟨v, o, rfl, rfl, h⟩
  | .ptr off c, x, vs, bl, n, h, hg, hs, hh => by
    obtain ⟨g, cc, us, t, bl', rfl, rfl, h1, h2⟩ := h
    have h0 := hg 0 _ rfl
    rw [Nat.add_zero] at h0
    have hm : getM (scat (.ptr off c) x n).m n = some (.cells (scat c x (n + 1)).ds) := by
      simp only [scat]
      rw [getM_cons, if_pos rfl]
    have hs0 := hs n (Nat.le_refl _) (by simp [CP.cnt])
    rw [hm] at hs0
    obtain ⟨k1, k2⟩ := scat_rep (n := n + 1) h2 (fun j o ho => by
      have := hg (j + 1) o (by simpa using ho)
      rw [← this]
      congr 1
      omega) (fun id hi1 hi2 => by
      rw [hs id (by omega) (by simp only [CP.cnt]; omega)]
      simp only [scat]
      rw [getM_cons, if_neg (by omega)]) hh
    refine ⟨?_, fun id ob ho => ?_⟩
    · simp only [scat, RepDs, RepD]
      refine ⟨_, [], rfl, ⟨rfl, ?_⟩, rfl⟩
      rw [hs0]
      exact ⟨g, cc, hd_one h0, rfl⟩
    · simp only [scat] at ho
      rw [getM_cons] at ho
      split at ho
      · rename_i e
        subst e
        simp only [Option.some.injEq] at ho
        subst ho
        exact ⟨g, cc, us, t, h0, h1, k1⟩
      · exact k2 id ob ho
  | .ip t0 c, x, vs, bl, n, h, hg, hs, hh => by
    obtain ⟨g, cc, us, t, bl', rfl, rfl, h1, h2⟩ := h
    have h0 := hg 0 _ rfl
    rw [Nat.add_zero] at h0
    have hm : getM (scat (.ip t0 c) x n).m n = some (.cells (scat c x (n + 1)).ds) := by
      simp only [scat]
      rw [getM_cons, if_pos rfl]
    have hs0 := hs n (Nat.le_refl _) (by simp [CP.cnt])
    rw [hm] at hs0
    obtain ⟨k1, k2⟩ := scat_rep (n := n + 1) h2 (fun j o ho => by
      have := hg (j + 1) o (by simpa using ho)
      rw [← this]
      congr 1
      omega) (fun id hi1 hi2 => by
      rw [hs id (by omega) (by simp only [CP.cnt]; omega)]
      simp only [scat]
      rw [getM_cons, if_neg (by omega)]) hh
    refine ⟨?_, fun id ob ho => ?_⟩
    · simp only [scat, RepDs, RepD]
      refine ⟨_, [], rfl, ⟨_, rfl, rfl, ?_⟩, rfl⟩
      rw [hs0]
      exact ⟨g, cc, hd_one h0, rfl⟩
    · simp only [scat] at ho
      rw [getM_cons] at ho
      split at ho
      · rename_i e
        subst e
        simp only [Option.some.injEq] at ho
        subst ho
        exact ⟨g, cc, us, t, h0, h1, k1⟩
      · exact k2 id ob ho
  | .clo f c, x, vs, bl, n, h, hg, hs, hh => by
    obtain ⟨us, rfl, h⟩ := h
    obtain ⟨k1, k2⟩ := scat_rep (n := n) h hg hs hh
    refine ⟨?_, k2⟩
    simp only [scat, RepDs, RepD]
    exact ⟨_, [], rfl, ⟨us, rfl, k1⟩, rfl⟩
  | .ag c, x, vs, bl, n, h, hg, hs, hh => by
    obtain ⟨us, rfl, h⟩ := h
    obtain ⟨k1, k2⟩ := scat_rep (n := n) h hg hs hh
    refine ⟨?_, k2⟩
    simp only [scat, RepDs, RepD]
    exact ⟨_, [], rfl, ⟨us, rfl, k1⟩, rfl⟩
  | .nil, x, vs, bl, n, h, hg, hs, hh => by
    obtain ⟨rfl, rfl⟩ := h
    refine ⟨?_, fun id ob ho => by simp [scat, getM] at ho⟩
    simp only [scat, RepDs]
  | .cons a b, x, vs, bl, n, h, hg, hs, hh => by
    obtain ⟨v, w, b1, b2, rfl, rfl, h1, h2⟩ := h
    have hl := h1.len
    obtain ⟨k1, k2⟩ := scat_rep (n := n) h1 (fun j o ho => hg j o (by
      have hj : j < b1.length := by
        rcases Nat.lt_or_ge j b1.length with h | h
        · exact h
        · rw [List.getElem?_eq_none h] at ho; cases ho
      rw [List.getElem?_append_left hj]
      exact ho)) (fun id i1 i2 => by
      rw [hs id i1 (by simp only [CP.cnt]; omega)]
      simp only [scat]
      rw [getM_app, scat_keyT _ _ (by omega)]) (fun q hq => hh q (List.mem_append_left _ hq))
    have hn := scat_n a x.1 n
    obtain ⟨k3, k4⟩ := scat_rep (n := (scat a x.1 n).n) h2 (fun j o ho => by
      have := hg (b1.length + j) o (by
        rw [List.getElem?_append_right (by omega)]
        rw [show b1.length + j - b1.length = j from by omega]
        exact ho)
      rw [← this]
      congr 1
      omega) (fun id i1 i2 => by
      rw [hs id (by omega) (by simp only [CP.cnt]; omega)]
      simp only [scat]
      rw [getM_app, scat_keyF _ _ (by omega)]) (fun q hq => hh q (List.mem_append_right _ (hn ▸ hq)))
    refine ⟨?_, fun id ob ho => ?_⟩
    · simp only [scat]
      exact k1.append k3
    · simp only [scat] at ho
      rw [getM_app] at ho
      split at ho
      · exact k2 id ob ho
      · exact k4 id ob ho

end
end Go.XD


/- Handing over. -/
namespace Go.XD

section
variable {P : Program} {F : Fm} {B : Nat → Prop} {env : Env} {S : St} {γ : Gam} {a : Act} {W : World} {G' : Nat → Prop}

/-- What an entry's object owns. -/
def blk (γ : Gam) : Option Nat → List (Nat × Nat)
  | none => []
  | some id => γ id
theorem castQ_some {p q : CP} {x : q.T} {y : p.T} (h : castQ p q x = some y) : ∃ e : q = p, e ▸ x = y := by
  unfold castQ at h
  split at h
  · rename_i e
    exact ⟨e, by simpa using h⟩
  · cases h
mutual
theorem gath_rep (hp : Hp F B S γ W) (hG : ∀ b, Frz F S γ W b → G' b) : ∀ {p : CP} {d : D} {x : p.T} {v : Value}, gath S.get p d = some x → RepD W.cell? (Frz F S γ W) S.get γ d v →
    (∀ id ∈ idsV S.get p d, S.get id ≠ none → ∀ g c, (g, c) ∈ γ id → G' g) → RepQ W G' p x [v] ((orgs S.get p d).map (blk γ))
  | .gi, d, x, v, h, r, hi => ⟨⟨v, rfl⟩, rfl⟩
  | .cst p, d, x, v, h, r, hi => by
    simp only [gath] at h
    split at h
    · simp only [RepD] at r
      subst r
      exact ⟨rfl, rfl⟩
    · simp only [RepD] at r
      subst r
      exact ⟨rfl, rfl⟩
    · cases h
  | .val t, d, x, v, h, r, hi => by
    simp only [gath] at h
    simp only [idsV] at hi
    exact ⟨v, rfl, rfl, conv_rep (fun _ _ h => h) hp hG h r hi⟩
  | .iv t0 u, d, x, v, h, r, hi => by
    cases d with
    | ifc t' d' =>
      cases hk : Nat.beq t' t0 with
      | false => simp [gath, hk] at h
      | true =>
        simp only [gath, hk] at h
        have hk1 := Nat.eq_of_beq_eq_true hk
        subst hk1
        simp only [idsV] at hi
        simp only [RepD] at r
        obtain ⟨w, rfl, r⟩ := r
        exact ⟨w, rfl, rfl, conv_rep (fun _ _ h => h) hp hG h r hi⟩
    | _ => simp [gath] at h
  | .own e, d, x, v, h, r, hi => by
    cases d with
    | nils =>
      simp only [gath, Option.some.injEq] at h
      subst h
      simp only [RepD] at r
      subst r
      exact ⟨_, [], rfl, rfl, .inl ⟨rfl, rfl, none, rfl⟩⟩
    | sf id =>
      simp only [gath] at h
      cases ho : S.get id with
      | none => rw [ho] at h; simp at h
      | some ob =>
        cases ob with
        | cells _ => rw [ho] at h; simp at h
        | arr _ _ _ => rw [ho] at h; simp at h
        | opt _ _ => rw [ho] at h; simp at h
        | mp _ _ _ _ => rw [ho] at h; simp at h
        | bh _ _ _ _ _ => rw [ho] at h; simp at h
        | buf e' xs =>
          rw [ho] at h
          simp only at h
          obtain ⟨h1, h2⟩ := castT_some h
          cases h1
          simp only at h2
          subst h2
          simp only [RepD] at r
          rw [ho] at r
          simp only at r
          obtain ⟨_, r⟩ := r
          have hob := hp.obs id _ ho
          simp only [ObRep] at hob
          refine ⟨v, γ id, rfl, rfl, ?_⟩
          rcases hob with ⟨h1, h2⟩ | ⟨g, c, us, t, h1, h2, h3, h4, h5, h6⟩
          · rcases r with ⟨g, c, h3, _⟩ | ⟨_, a, h3⟩
            · exact (hd_ne h3 h1).elim
            · exact .inl ⟨h1, h2, a, h3⟩
          · rcases r with ⟨g', c', h7, h8⟩ | ⟨h7, _⟩
            · rw [hd_one h1] at h7
              simp only [Option.some.injEq, Prod.mk.injEq] at h7
              obtain ⟨rfl, rfl⟩ := h7
              exact .inr ⟨g, c, us, t, h1, h8, h2, h3, h4, h5, fun i x hx => (h6 i x hx).mono (fun _ _ => rfl) hG⟩
            · exact (hd_ne' h7 h1).elim
    | _ => simp [gath] at h
  | .arr c, d, x, v, h, r, hi => by
    cases d with
    | nils =>
      simp only [gath, Option.some.injEq] at h
      subst h
      simp only [RepD] at r
      subst r
      exact ⟨_, [], rfl, rfl, .inl ⟨rfl, rfl, none, rfl⟩⟩
    | sf id =>
      simp only [gath] at h
      cases ho : S.get id with
      | none => rw [ho] at h; simp at h
      | some ob =>
        cases ob with
        | cells _ => rw [ho] at h; simp at h
        | buf _ _ => rw [ho] at h; simp at h
        | opt _ _ => rw [ho] at h; simp at h
        | mp _ _ _ _ => rw [ho] at h; simp at h
        | bh _ _ _ _ _ => rw [ho] at h; simp at h
        | arr c' xs hl =>
          cases hl with
          | some _ => rw [ho] at h; simp at h
          | none =>
            rw [ho] at h
            simp only at h
            obtain ⟨h1, h2⟩ := castQ_some h
            cases h1
            simp only at h2
            subst h2
            exact (arr_pack ho (hp.obs id _ ho) r).mono hG
    | _ => simp [gath] at h
  | .hol c j, d, x, v, h, r, hi => by
    cases d with
    | sf id =>
      simp only [gath] at h
      split at h
      · rename_i c' xs k f ho
        obtain ⟨h1, h2⟩ := castQ_some h
        cases h1
        simp only at h2
        subst h2
        simp only [RepD] at r
        rw [ho] at r
        obtain ⟨_, r⟩ := r
        have hob := hp.obs id _ ho
        simp only [ObRep] at hob
        rcases hob with ⟨_, _, h3⟩ | ⟨g, cap, us, t, bls, q1, q2, q3, q4, q5, q6, q7⟩
        · cases h3
        · have hh : hdG γ id = some (g, cap) := by unfold hdG; rw [q1]; rfl
          rcases r with ⟨g', c2, r1, r2⟩ | ⟨r1, _⟩
          · rw [hh] at r1
            simp only [Option.some.injEq, Prod.mk.injEq] at r1
            obtain ⟨rfl, rfl⟩ := r1
            refine ⟨v, g, cap, us, t, bls, rfl, by simp [orgs, blk, q1], r2, q2, q3, q4, q5, q6, fun i y hy => ?_⟩
            obtain ⟨w, b, w1, w2, w3⟩ := q7 i y hy
            exact ⟨w, b, w1, w2, fun e => (w3.1 e).1, fun e => (w3.2 e).mono hG⟩
          · rw [hh] at r1; cases r1
      · cases h
    | _ => simp [gath] at h
  | .mp k e, d, x, v, h, r, hi => by
    cases d with
    | sf id =>
      simp only [gath] at h
      cases ho : S.get id with
      | none => rw [ho] at h; simp at h
      | some ob =>
        cases ob with
        | cells _ => rw [ho] at h; simp at h
        | buf _ _ => rw [ho] at h; simp at h
        | arr _ _ _ => rw [ho] at h; simp at h
        | opt _ _ => rw [ho] at h; simp at h
        | bh _ _ _ _ _ => rw [ho] at h; simp at h
        | mp k' e' es n =>
          rw [ho] at h
          simp only at h
          obtain ⟨h1, h2⟩ := castQ_some h
          cases h1
          simp only at h2
          subst h2
          exact (mp_pack ho (hp.obs id _ ho) r).mono hG
    | _ => simp [gath] at h
  | .opt c, d, x, v, h, r, hi => by
    cases d with
    | nilp =>
      simp only [gath, Option.some.injEq] at h
      subst h
      simp only [RepD] at r
      subst r
      exact ⟨_, [], rfl, rfl, .inl ⟨rfl, rfl, rfl⟩⟩
    | ptr id off =>
      cases off with
      | succ _ => simp [gath] at h
      | zero =>
        simp only [gath] at h
        cases ho : S.get id with
        | none => rw [ho] at h; simp at h
        | some ob =>
          cases ob with
          | cells _ => rw [ho] at h; simp at h
          | buf _ _ => rw [ho] at h; simp at h
          | arr _ _ _ => rw [ho] at h; simp at h
          | mp _ _ _ _ => rw [ho] at h; simp at h
          | bh _ _ _ _ _ => rw [ho] at h; simp at h
          | opt c' x =>
            rw [ho] at h
            simp only at h
            obtain ⟨h1, h2⟩ := castQ_some h
            cases h1
            simp only at h2
            subst h2
            exact (opt_pack ho (hp.obs id _ ho) r).mono hG
    | _ => simp [gath] at h
  | .ptr k c, d, x, v, h, r, hi => by
    cases d with
    | ptr id off =>
      cases hk : Nat.beq off k with
      | false => simp [gath, hk] at h
      | true =>
        have hk := Nat.eq_of_beq_eq_true hk
        subst hk
        simp only [gath, Nat.beq_refl] at h
        cases ho : S.get id with
        | none => rw [ho] at h; simp at h
        | some ob =>
          cases ob with
          | buf _ _ => rw [ho] at h; simp at h
          | arr _ _ _ => rw [ho] at h; simp at h
          | opt _ _ => rw [ho] at h; simp at h
          | mp _ _ _ _ => rw [ho] at h; simp at h
          | bh _ _ _ _ _ => rw [ho] at h; simp at h
          | cells ds =>
            rw [ho] at h
            simp only at h
            simp only [RepD] at r
            rw [ho] at r
            obtain ⟨_, g, cc, r1, rfl⟩ := r
            obtain ⟨g', c', us, t, k1, k2, k3⟩ := hp.obs id _ ho
            rw [hd_one k1] at r1
            simp only [Option.some.injEq, Prod.mk.injEq] at r1
            obtain ⟨rfl, rfl⟩ := r1
            have := gaths_rep hp hG h k3 (fun id' hid => hi id' (by simp only [idsV, ho]; exact hid))
            refine ⟨g', c', us, t, _, rfl, ?_, k2, this⟩
            simp only [orgs, ho, List.map_cons, blk, k1]
    | _ => simp [gath] at h
  | .ip t0 c, d, x, v, h, r, hi => by
    cases d with
    | ifc t' d' =>
      cases d' with
      | ptr id off =>
       cases hk : (Nat.beq off 0 && Nat.beq t' t0) with
       | false => simp [gath, hk] at h
       | true =>
        simp only [gath, hk] at h
        rw [Bool.and_eq_true] at hk
        have hk1 := Nat.eq_of_beq_eq_true hk.1
        have hk2 := Nat.eq_of_beq_eq_true hk.2
        subst hk1
        subst hk2
        cases ho : S.get id with
        | none => rw [ho] at h; simp at h
        | some ob =>
          cases ob with
          | buf _ _ => rw [ho] at h; simp at h
          | arr _ _ _ => rw [ho] at h; simp at h
          | opt _ _ => rw [ho] at h; simp at h
          | mp _ _ _ _ => rw [ho] at h; simp at h
          | bh _ _ _ _ _ => rw [ho] at h; simp at h
          | cells ds =>
            rw [ho] at h
            simp only at h
            simp only [RepD] at r
            obtain ⟨w, rfl, r⟩ := r
            rw [ho] at r
            obtain ⟨_, g, cc, r1, rfl⟩ := r
            obtain ⟨g', c', us, t, k1, k2, k3⟩ := hp.obs id _ ho
            rw [hd_one k1] at r1
            simp only [Option.some.injEq, Prod.mk.injEq] at r1
            obtain ⟨rfl, rfl⟩ := r1
            have := gaths_rep hp hG h k3 (fun id' hid => hi id' (by simp only [idsV, ho]; exact hid))
            refine ⟨g', c', us, t, _, rfl, ?_, k2, this⟩
            simp only [orgs, ho, List.map_cons, blk, k1]
      | _ => simp [gath] at h
    | _ => simp [gath] at h
  | .clo f c, d, x, v, h, r, hi => by
    cases d with
    | clo g ds =>
      simp only [gath] at h
      split at h
      · rename_i hfg
        have := Nat.eq_of_beq_eq_true hfg
        subst this
        simp only [RepD] at r
        obtain ⟨us, rfl, r⟩ := r
        exact ⟨us, rfl, gaths_rep hp hG h r (fun id' hid => hi id' (by simp only [idsV]; exact hid))⟩
      · cases h
    | _ => simp [gath] at h
  | .ag c, d, x, v, h, r, hi => by
    cases d with
    | ag ds =>
      simp only [gath] at h
      simp only [RepD] at r
      obtain ⟨us, rfl, r⟩ := r
      exact ⟨us, rfl, gaths_rep hp hG h r (fun id' hid => hi id' (by simp only [idsV]; exact hid))⟩
    | _ => simp [gath] at h
  | .nil, d, x, v, h, r, hi => by simp [gath] at h
  | .cons _ _, d, x, v, h, r, hi => by simp [gath] at h
theorem gaths_rep (hp : Hp F B S γ W) (hG : ∀ b, Frz F S γ W b → G' b) : ∀ {p : CP} {ds : List D} {x : p.T} {vs : List Value}, gaths S.get p ds = some x → RepDs W.cell? (Frz F S γ W) S.get γ ds vs →
    (∀ id ∈ idsVs S.get p ds, S.get id ≠ none → ∀ g c, (g, c) ∈ γ id → G' g) → RepQ W G' p x vs ((orgss S.get p ds).map (blk γ))
  | .nil, [], x, vs, h, r, hi => by
    simp only [RepDs] at r
    exact ⟨r, rfl⟩
  | .nil, _ :: _, x, vs, h, r, hi => by simp [gaths] at h
  | .cons p q, [], x, vs, h, r, hi => by simp [gaths] at h
  | .cons p q, d :: ds, x, vs, h, r, hi => by
    simp only [gaths] at h
    cases h1 : gath S.get p d with
    | none => rw [h1] at h; simp at h
    | some y =>
      cases h2 : gaths S.get q ds with
      | none => rw [h1, h2] at h; simp at h
      | some z =>
        rw [h1, h2] at h
        simp only [Option.some.injEq] at h
        subst h
        simp only [RepDs] at r
        obtain ⟨v, us, rfl, r1, r2⟩ := r
        refine ⟨[v], us, _, _, rfl, ?_, gath_rep hp hG h1 r1 (fun id hid => hi id (by simp only [idsVs]; exact List.mem_append_left _ hid)), gaths_rep hp hG h2 r2 (fun id hid => hi id (by simp only [idsVs]; exact List.mem_append_right _ hid))⟩
        simp only [orgss, List.map_append]
  | .cst _, ds, _, _, h, _, _ => by cases ds <;> simp [gaths] at h
  | .gi, ds, _, _, h, _, _ => by cases ds <;> simp [gaths] at h
  | .val _, ds, _, _, h, _, _ => by cases ds <;> simp [gaths] at h
  | .iv _ _, ds, _, _, h, _, _ => by cases ds <;> simp [gaths] at h
  | .own _, ds, _, _, h, _, _ => by cases ds <;> simp [gaths] at h
  | .arr _, ds, _, _, h, _, _ => by cases ds <;> simp [gaths] at h
  | .opt _, ds, _, _, h, _, _ => by cases ds <;> simp [gaths] at h
  | .mp _ _, ds, _, _, h, _, _ => by cases ds <;> simp [gaths] at h
  | .hol _ _, ds, _, _, h, _, _ => by cases ds <;> simp [gaths] at h
  | .ptr _ _, ds, _, _, h, _, _ => by cases ds <;> simp [gaths] at h
  | .ip _ _, ds, _, _, h, _, _ => by cases ds <;> simp [gaths] at h
  | .clo _ _, ds, _, _, h, _, _ => by cases ds <;> simp [gaths] at h
  | .ag _, ds, _, _, h, _, _ => by cases ds <;> simp [gaths] at h
end

mutual
/-- What is handed over was there. -/
theorem gath_there {look : Nat → Option Ob} : ∀ {p : CP} {d : D} {x : p.T}, gath look p d = some x → ∀ id, some id ∈ orgs look p d → look id ≠ none
  | .cst t, d, x, h, id, hid => by simp [orgs] at hid
  | .gi, d, x, h, id, hid => by simp [orgs] at hid
  | .val t, d, x, h, id, hid => by simp [orgs] at hid
  | .iv _ _, d, x, h, id, hid => by simp [orgs] at hid
  | .own e, d, x, h, id, hid => by
    cases d with
    | nils => simp [orgs] at hid
    | sf i =>
      simp only [orgs, List.mem_singleton, Option.some.injEq] at hid
      subst hid
      simp only [gath] at h
      intro e
      rw [e] at h
      simp at h
    | _ => simp [gath] at h
  | .arr e, d, x, h, id, hid => by
    cases d with
    | nils => simp [orgs] at hid
    | sf i =>
      simp only [orgs, List.mem_singleton, Option.some.injEq] at hid
      subst hid
      simp only [gath] at h
      intro e
      rw [e] at h
      simp at h
    | _ => simp [gath] at h
  | .hol c j, d, x, h, id, hid => by
    cases d with
    | sf i =>
      simp only [orgs, List.mem_singleton, Option.some.injEq] at hid
      subst hid
      simp only [gath] at h
      intro e
      rw [e] at h
      simp at h
    | _ => simp [gath] at h
  | .mp k e, d, x, h, id, hid => by
    cases d with
    | sf i =>
      simp only [orgs, List.mem_singleton, Option.some.injEq] at hid
      subst hid
      simp only [gath] at h
      intro e
      rw [e] at h
      simp at h
    | _ => simp [gath] at h
  | .opt e, d, x, h, id, hid => by
    cases d with
    | nilp => simp [orgs] at hid
    | ptr i off =>
      cases off with
      | succ _ => simp [gath] at h
      | zero =>
        simp only [orgs, List.mem_singleton, Option.some.injEq] at hid
        subst hid
        simp only [gath] at h
        intro e
        rw [e] at h
        simp at h
    | _ => simp [gath] at h
  | .ptr k c, d, x, h, id, hid => by
    cases d with
    | ptr i off =>
      cases hk : Nat.beq off k with
      | false => simp [gath, hk] at h
      | true =>
        have hk := Nat.eq_of_beq_eq_true hk
        subst hk
        simp only [gath, Nat.beq_refl] at h
        cases ho : look i with
        | none => rw [ho] at h; simp at h
        | some ob =>
          cases ob with
          | buf _ _ => rw [ho] at h; simp at h
          | arr _ _ _ => rw [ho] at h; simp at h
          | opt _ _ => rw [ho] at h; simp at h
          | mp _ _ _ _ => rw [ho] at h; simp at h
          | bh _ _ _ _ _ => rw [ho] at h; simp at h
          | cells ds =>
            rw [ho] at h
            simp only at h
            simp only [orgs, ho, List.mem_cons, Option.some.injEq] at hid
            rcases hid with rfl | hid
            · rw [ho]; simp
            · exact gaths_there h id hid
    | _ => simp [gath] at h
  | .ip t0 c, d, x, h, id, hid => by
    cases d with
    | ifc t' d' =>
      cases d' with
      | ptr i off =>
       cases hk : (Nat.beq off 0 && Nat.beq t' t0) with
       | false => simp [gath, hk] at h
       | true =>
        simp only [gath, hk] at h
        rw [Bool.and_eq_true] at hk
        have hk1 := Nat.eq_of_beq_eq_true hk.1
        have hk2 := Nat.eq_of_beq_eq_true hk.2
        subst hk1
        subst hk2
        cases ho : look i with
        | none => rw [ho] at h; simp at h
        | some ob =>
          cases ob with
          | buf _ _ => rw [ho] at h; simp at h
          | arr _ _ _ => rw [ho] at h; simp at h
          | opt _ _ => rw [ho] at h; simp at h
          | mp _ _ _ _ => rw [ho] at h; simp at h
          | bh _ _ _ _ _ => rw [ho] at h; simp at h
          | cells ds =>
            rw [ho] at h
            simp only at h
            simp only [orgs, ho, List.mem_cons, Option.some.injEq] at hid
            rcases hid with rfl | hid
            · rw [ho]; simp
            · exact gaths_there h id hid
      | _ => simp [gath] at h
    | _ => simp [gath] at h
  | .clo f c, d, x, h, id, hid => by
    cases d with
    | clo g ds =>
      simp only [gath] at h
      split at h
      · simp only [orgs] at hid
        exact gaths_there h id hid
      · cases h
    | _ => simp [gath] at h
  | .ag c, d, x, h, id, hid => by
    cases d with
    | ag ds =>
      simp only [gath] at h
      simp only [orgs] at hid
      exact gaths_there h id hid
    | _ => simp [gath] at h
  | .nil, d, x, h, id, hid => by simp [gath] at h
  | .cons _ _, d, x, h, id, hid => by simp [gath] at h
theorem gaths_there {look : Nat → Option Ob} : ∀ {p : CP} {ds : List D} {x : p.T}, gaths look p ds = some x → ∀ id, some id ∈ orgss look p ds → look id ≠ none
  | .nil, [], x, h, id, hid => by simp [orgss] at hid
  | .nil, _ :: _, x, h, id, hid => by simp [gaths] at h
  | .cons p q, [], x, h, id, hid => by simp [gaths] at h
  | .cons p q, d :: ds, x, h, id, hid => by
    simp only [gaths] at h
    cases h1 : gath look p d with
    | none => rw [h1] at h; simp at h
    | some y =>
      cases h2 : gaths look q ds with
      | none => rw [h1, h2] at h; simp at h
      | some z =>
        simp only [orgss, List.mem_append] at hid
        rcases hid with hid | hid
        · exact gath_there h1 id hid
        · exact gaths_there h2 id hid
  | .cst _, ds, _, h, _, _ => by cases ds <;> simp [gaths] at h
  | .gi, ds, _, h, _, _ => by cases ds <;> simp [gaths] at h
  | .val _, ds, _, h, _, _ => by cases ds <;> simp [gaths] at h
  | .iv _ _, ds, _, h, _, _ => by cases ds <;> simp [gaths] at h
  | .own _, ds, _, h, _, _ => by cases ds <;> simp [gaths] at h
  | .arr _, ds, _, h, _, _ => by cases ds <;> simp [gaths] at h
  | .opt _, ds, _, h, _, _ => by cases ds <;> simp [gaths] at h
  | .mp _ _, ds, _, h, _, _ => by cases ds <;> simp [gaths] at h
  | .hol _ _, ds, _, h, _, _ => by cases ds <;> simp [gaths] at h
  | .ptr _ _, ds, _, h, _, _ => by cases ds <;> simp [gaths] at h
  | .ip _ _, ds, _, h, _, _ => by cases ds <;> simp [gaths] at h
  | .clo _ _, ds, _, h, _, _ => by cases ds <;> simp [gaths] at h
  | .ag _, ds, _, h, _, _ => by cases ds <;> simp [gaths] at h
end

theorem gaths_len {look : Nat → Option Ob} : ∀ {p : CP} {ds : List D} {x : p.T}, gaths look p ds = some x → (orgss look p ds).length = p.cnt := fun h => (go.2 h)
  where
  go {look : Nat → Option Ob} : ∀ {p : CP}, (∀ {d : D} {x : p.T}, gath look p d = some x → (orgs look p d).length = p.cnt) ∧ (∀ {ds : List D} {x : p.T}, gaths look p ds = some x → (orgss look p ds).length = p.cnt)
    | .cst t => ⟨fun _ => rfl, fun {ds} _ h => by cases ds <;> simp [gaths] at h⟩
    | .gi => ⟨fun _ => rfl, fun {ds} _ h => by cases ds <;> simp [gaths] at h⟩
    | .val t => ⟨fun _ => rfl, fun {ds} _ h => by cases ds <;> simp [gaths] at h⟩
    | .iv _ _ => ⟨fun _ => rfl, fun {ds} _ h => by cases ds <;> simp [gaths] at h⟩
    | .own e => ⟨fun {d} _ h => by cases d <;> simp [gath] at h <;> rfl, fun {ds} _ h => by cases ds <;> simp [gaths] at h⟩
    | .arr e => ⟨fun {d} _ h => by cases d <;> simp [gath] at h <;> rfl, fun {ds} _ h => by cases ds <;> simp [gaths] at h⟩
    | .mp _ _ => ⟨fun {d} _ h => by cases d <;> simp [gath] at h <;> rfl, fun {ds} _ h => by cases ds <;> simp [gaths] at h⟩
    | .hol _ _ => ⟨fun {d} _ h => by cases d <;> simp [gath] at h <;> rfl, fun {ds} _ h => by cases ds <;> simp [gaths] at h⟩
    | .opt e => ⟨fun {d} _ h => by
        cases d with
        | nilp => rfl
        | ptr i off =>
          cases off with
          | succ _ => simp [gath] at h
          | zero => rfl
        | _ => simp [gath] at h, fun {ds} _ h => by cases ds <;> simp [gaths] at h⟩
    | .ptr k c => ⟨fun {d} x h => by
        cases d with
        | ptr i off =>
          cases hk : Nat.beq off k with
          | false => simp [gath, hk] at h
          | true =>
            have hk := Nat.eq_of_beq_eq_true hk
            subst hk
            simp only [gath, Nat.beq_refl] at h
            cases ho : look i with
            | none => rw [ho] at h; simp at h
            | some ob =>
              cases ob with
              | buf _ _ => rw [ho] at h; simp at h
              | arr _ _ _ => rw [ho] at h; simp at h
              | opt _ _ => rw [ho] at h; simp at h
              | mp _ _ _ _ => rw [ho] at h; simp at h
              | bh _ _ _ _ _ => rw [ho] at h; simp at h
              | cells ds =>
                rw [ho] at h
                simp only at h
                simp only [orgs, ho, List.length_cons, CP.cnt, (go (p := c)).2 h]
        | _ => simp [gath] at h, fun {ds} _ h => by cases ds <;> simp [gaths] at h⟩
    | .ip t0 c => ⟨fun {d} x h => by
        cases d with
        | ifc t' d' =>
          cases d' with
          | ptr i off =>
           cases hk : (Nat.beq off 0 && Nat.beq t' t0) with
           | false => simp [gath, hk] at h
           | true =>
            simp only [gath, hk] at h
            rw [Bool.and_eq_true] at hk
            have hk1 := Nat.eq_of_beq_eq_true hk.1
            have hk2 := Nat.eq_of_beq_eq_true hk.2
            subst hk1
            subst hk2
            cases ho : look i with
            | none => rw [ho] at h; simp at h
            | some ob =>
              cases ob with
              | buf _ _ => rw [ho] at h; simp at h
              | arr _ _ _ => rw [ho] at h; simp at h
              | opt _ _ => rw [ho] at h; simp at h
              | mp _ _ _ _ => rw [ho] at h; simp at h
              | bh _ _ _ _ _ => rw [ho] at h; simp at h
              | cells ds =>
                rw [ho] at h
                simp only at h
                simp only [orgs, ho, List.length_cons, CP.cnt, (go (p := c)).2 h]
          | _ => simp [gath] at h
        | _ => simp [gath] at h, fun {ds} _ h => by cases ds <;> simp [gaths] at h⟩
    | .clo f c => ⟨fun {d} x h => by
        cases d with
        | clo g ds =>
          simp only [gath] at h
          split at h
          · simp only [orgs, CP.cnt, (go (p := c)).2 h]
          · cases h
        | _ => simp [gath] at h, fun {ds} _ h => by cases ds <;> simp [gaths] at h⟩
    | .ag c => ⟨fun {d} x h => by
        cases d with
        | ag ds =>
          simp only [gath] at h
          simp only [orgs, CP.cnt, (go (p := c)).2 h]
        | _ => simp [gath] at h, fun {ds} _ h => by cases ds <;> simp [gaths] at h⟩
    | .nil => ⟨fun {d} _ h => by simp [gath] at h, fun {ds} _ h => by
        cases ds with
        | nil => rfl
        | cons _ _ => simp [gaths] at h⟩
    | .cons p q => ⟨fun {d} _ h => by simp [gath] at h, fun {ds} x h => by
        cases ds with
        | nil => simp [gaths] at h
        | cons d ds =>
          simp only [gaths] at h
          cases h1 : gath look p d with
          | none => rw [h1] at h; simp at h
          | some y =>
            cases h2 : gaths look q ds with
            | none => rw [h1, h2] at h; simp at h
            | some z => simp only [orgss, List.length_append, CP.cnt, (go (p := p)).1 h1, (go (p := q)).2 h2]⟩

theorem castT_eq {t t' : Ty} {x : t'.T} {y : t.T} (h : castT t t' x = some y) : ∃ e : t' = t, e ▸ x = y := by
  unfold castT at h
  split at h
  · rename_i e
    exact ⟨e, by simpa using h⟩
  · cases h

/-- A slice with an element apart is told as it is. -/
def hlS (ob ob' : Ob) : Prop := ∀ (c : CP) (xs : List c.T) (k : Nat) (d : D), ob' = .arr c xs (some (k, d)) → ∃ d', ob = .arr c xs (some (k, d'))
/-- What is handed over is told alike. -/
theorem gaths_like2 {look : Nat → Option Ob} : ∀ {p : CP} {ds : List D} {x : p.T}, gaths look p ds = some x → ∀ (n j id : Nat), (orgss look p ds)[j]? = some (some id) → ∃ ob ob', look id = some ob ∧ getM (scat p x n).m (n + j) = some ob' ∧ (like ob ob' ∧ hlS ob ob') := fun h => (go.2 h)
  where
  go {look : Nat → Option Ob} : ∀ {p : CP}, (∀ {d : D} {x : p.T}, gath look p d = some x → ∀ (n j id : Nat), (orgs look p d)[j]? = some (some id) → ∃ ob ob', look id = some ob ∧ getM (scat p x n).m (n + j) = some ob' ∧ (like ob ob' ∧ hlS ob ob')) ∧
      (∀ {ds : List D} {x : p.T}, gaths look p ds = some x → ∀ (n j id : Nat), (orgss look p ds)[j]? = some (some id) → ∃ ob ob', look id = some ob ∧ getM (scat p x n).m (n + j) = some ob' ∧ (like ob ob' ∧ hlS ob ob'))
    | .cst t => ⟨fun _ n j id hj => by simp [orgs] at hj, fun {ds} _ h => by cases ds <;> simp [gaths] at h⟩
    | .gi => ⟨fun _ n j id hj => by simp [orgs] at hj, fun {ds} _ h => by cases ds <;> simp [gaths] at h⟩
    | .val t => ⟨fun _ n j id hj => by simp [orgs] at hj, fun {ds} _ h => by cases ds <;> simp [gaths] at h⟩
    | .iv _ _ => ⟨fun _ n j id hj => by simp [orgs] at hj, fun {ds} _ h => by cases ds <;> simp [gaths] at h⟩
    | .own e => ⟨fun {d} x h n j id hj => by
        cases d with
        | nils => cases j <;> simp [orgs] at hj
        | sf i =>
          cases j with
          | succ _ => simp [orgs] at hj
          | zero =>
            simp only [orgs, List.getElem?_cons_zero, Option.some.injEq] at hj
            subst hj
            simp only [gath] at h
            cases ho : look i with
            | none => rw [ho] at h; simp at h
            | some ob =>
              cases ob with
              | cells _ => rw [ho] at h; simp at h
              | arr _ _ _ => rw [ho] at h; simp at h
              | opt _ _ => rw [ho] at h; simp at h
              | mp _ _ _ _ => rw [ho] at h; simp at h
              | bh _ _ _ _ _ => rw [ho] at h; simp at h
              | buf e' xs =>
                rw [ho] at h
                simp only at h
                refine ⟨_, .buf e x, rfl, ?_, ?_⟩
                · simp only [scat, Nat.add_zero]
                  rw [getM_cons, if_pos rfl]
                · have hc := castT_eq (t := .lst e) (t' := .lst e') h
                  obtain ⟨e1, e2⟩ := hc
                  have e3 : e' = e := by simpa using e1
                  subst e3
                  have : xs = x := e2
                  subst this
                  exact ⟨like_refl _, fun _ _ _ _ e => by cases e⟩
        | _ => simp [gath] at h, fun {ds} _ h => by cases ds <;> simp [gaths] at h⟩
    | .arr e => ⟨fun {d} x h n j id hj => by
        cases d with
        | nils => cases j <;> simp [orgs] at hj
        | sf i =>
          cases j with
          | succ _ => simp [orgs] at hj
          | zero =>
            simp only [orgs, List.getElem?_cons_zero, Option.some.injEq] at hj
            subst hj
            simp only [gath] at h
            cases ho : look i with
            | none => rw [ho] at h; simp at h
            | some ob =>
              cases ob with
              | cells _ => rw [ho] at h; simp at h
              | buf _ _ => rw [ho] at h; simp at h
              | opt _ _ => rw [ho] at h; simp at h
              | mp _ _ _ _ => rw [ho] at h; simp at h
              | bh _ _ _ _ _ => rw [ho] at h; simp at h
              | arr e' xs hl =>
                cases hl with
                | some _ => rw [ho] at h; simp at h
                | none =>
                  rw [ho] at h
                  simp only at h
                  refine ⟨_, .arr e x none, rfl, ?_, ?_⟩
                  · simp only [scat, Nat.add_zero]
                    rw [getM_cons, if_pos rfl]
                  · obtain ⟨e1, e2⟩ := castQ_some h
                    cases e1
                    simp only at e2
                    subst e2
                    exact ⟨like_refl _, fun _ _ _ _ e => by cases e⟩
        | _ => simp [gath] at h, fun {ds} _ h => by cases ds <;> simp [gaths] at h⟩
    | .hol c q => ⟨fun {d} x h n j id hj => by
        cases d with
        | sf i =>
          cases j with
          | succ _ => simp [orgs] at hj
          | zero =>
            simp only [orgs, List.getElem?_cons_zero, Option.some.injEq] at hj
            subst hj
            simp only [gath] at h
            split at h
            · rename_i c' xs k f ho
              obtain ⟨e1, e2⟩ := castQ_some h
              cases e1
              simp only at e2
              subst e2
              refine ⟨_, .arr c xs (some (k, .sf q)), ho, ?_, ?_, fun _ _ _ _ e => ?_⟩
              · simp only [scat, Nat.add_zero]
                rw [getM_cons, if_pos rfl]
              · simp [like]
              · cases e
                exact ⟨_, rfl⟩
            · cases h
        | _ => simp [gath] at h, fun {ds} _ h => by cases ds <;> simp [gaths] at h⟩
    | .mp k e => ⟨fun {d} x h n j id hj => by
        cases d with
        | sf i =>
          cases j with
          | succ _ => simp [orgs] at hj
          | zero =>
            simp only [orgs, List.getElem?_cons_zero, Option.some.injEq] at hj
            subst hj
            simp only [gath] at h
            cases ho : look i with
            | none => rw [ho] at h; simp at h
            | some ob =>
              cases ob with
              | cells _ => rw [ho] at h; simp at h
              | buf _ _ => rw [ho] at h; simp at h
              | opt _ _ => rw [ho] at h; simp at h
              | arr _ _ _ => rw [ho] at h; simp at h
              | bh _ _ _ _ _ => rw [ho] at h; simp at h
              | mp k' e' es m =>
                refine ⟨_, .mp k e x.1 x.2, rfl, ?_, ⟨trivial, fun _ _ _ _ e => by cases e⟩⟩
                simp only [scat, Nat.add_zero]
                rw [getM_cons, if_pos rfl]
        | _ => simp [gath] at h, fun {ds} _ h => by cases ds <;> simp [gaths] at h⟩
    | .opt e => ⟨fun {d} x h n j id hj => by
        cases d with
        | nilp => cases j <;> simp [orgs] at hj
        | ptr i off =>
          cases off with
          | succ _ => simp [gath] at h
          | zero =>
            cases j with
            | succ _ => simp [orgs] at hj
            | zero =>
              simp only [orgs, List.getElem?_cons_zero, Option.some.injEq] at hj
              subst hj
              simp only [gath] at h
              cases ho : look i with
              | none => rw [ho] at h; simp at h
              | some ob =>
                cases ob with
                | cells _ => rw [ho] at h; simp at h
                | buf _ _ => rw [ho] at h; simp at h
                | arr _ _ _ => rw [ho] at h; simp at h
                | mp _ _ _ _ => rw [ho] at h; simp at h
                | bh _ _ _ _ _ => rw [ho] at h; simp at h
                | opt e' z =>
                  rw [ho] at h
                  simp only at h
                  refine ⟨_, .opt e x, rfl, ?_, ?_⟩
                  · simp only [scat, Nat.add_zero]
                    rw [getM_cons, if_pos rfl]
                  · obtain ⟨e1, e2⟩ := castQ_some h
                    cases e1
                    simp only at e2
                    subst e2
                    exact ⟨like_refl _, fun _ _ _ _ e => by cases e⟩
        | _ => simp [gath] at h, fun {ds} _ h => by cases ds <;> simp [gaths] at h⟩
    | .ptr k c => ⟨fun {d} x h n j id hj => by
        cases d with
        | ptr i off =>
          cases hk : Nat.beq off k with
          | false => simp [gath, hk] at h
          | true =>
            have hk := Nat.eq_of_beq_eq_true hk
            subst hk
            simp only [gath, Nat.beq_refl] at h
            cases ho : look i with
            | none => rw [ho] at h; simp at h
            | some ob =>
              cases ob with
              | buf _ _ => rw [ho] at h; simp at h
              | arr _ _ _ => rw [ho] at h; simp at h
              | opt _ _ => rw [ho] at h; simp at h
              | mp _ _ _ _ => rw [ho] at h; simp at h
              | bh _ _ _ _ _ => rw [ho] at h; simp at h
              | cells ds =>
                rw [ho] at h
                simp only at h
                simp only [orgs, ho] at hj
                cases j with
                | zero =>
                  simp only [List.getElem?_cons_zero, Option.some.injEq] at hj
                  subst hj
                  refine ⟨_, .cells (scat c x (n + 1)).ds, ho, ?_, ⟨trivial, fun _ _ _ _ e => by cases e⟩⟩
                  simp only [scat, Nat.add_zero]
                  rw [getM_cons, if_pos rfl]
                | succ j =>
                  obtain ⟨ob, ob', h1, h2, h3⟩ := (go (p := c)).2 h (n + 1) j id (by simpa using hj)
                  refine ⟨ob, ob', h1, ?_, h3⟩
                  simp only [scat]
                  rw [getM_cons, if_neg (by omega), ← h2]
                  congr 1
                  omega
        | _ => simp [gath] at h, fun {ds} _ h => by cases ds <;> simp [gaths] at h⟩
    | .ip t0 c => ⟨fun {d} x h n j id hj => by
        cases d with
        | ifc t' d' =>
          cases d' with
          | ptr i off =>
           cases hk : (Nat.beq off 0 && Nat.beq t' t0) with
           | false => simp [gath, hk] at h
           | true =>
            simp only [gath, hk] at h
            rw [Bool.and_eq_true] at hk
            have hk1 := Nat.eq_of_beq_eq_true hk.1
            have hk2 := Nat.eq_of_beq_eq_true hk.2
            subst hk1
            subst hk2
            cases ho : look i with
            | none => rw [ho] at h; simp at h
            | some ob =>
              cases ob with
              | buf _ _ => rw [ho] at h; simp at h
              | arr _ _ _ => rw [ho] at h; simp at h
              | opt _ _ => rw [ho] at h; simp at h
              | mp _ _ _ _ => rw [ho] at h; simp at h
              | bh _ _ _ _ _ => rw [ho] at h; simp at h
              | cells ds =>
                rw [ho] at h
                simp only at h
                simp only [orgs, ho] at hj
                cases j with
                | zero =>
                  simp only [List.getElem?_cons_zero, Option.some.injEq] at hj
                  subst hj
                  refine ⟨_, .cells (scat c x (n + 1)).ds, ho, ?_, ⟨trivial, fun _ _ _ _ e => by cases e⟩⟩
                  simp only [scat, Nat.add_zero]
                  rw [getM_cons, if_pos rfl]
                | succ j =>
                  obtain ⟨ob, ob', h1, h2, h3⟩ := (go (p := c)).2 h (n + 1) j id (by simpa using hj)
                  refine ⟨ob, ob', h1, ?_, h3⟩
                  simp only [scat]
                  rw [getM_cons, if_neg (by omega), ← h2]
                  congr 1
                  omega
          | _ => simp [gath] at h
        | _ => simp [gath] at h, fun {ds} _ h => by cases ds <;> simp [gaths] at h⟩
    | .clo f c => ⟨fun {d} x h n j id hj => by
        cases d with
        | clo g ds =>
          simp only [gath] at h
          split at h
          · exact (go (p := c)).2 h n j id hj
          · cases h
        | _ => simp [gath] at h, fun {ds} _ h => by cases ds <;> simp [gaths] at h⟩
    | .ag c => ⟨fun {d} x h n j id hj => by
        cases d with
        | ag ds =>
          simp only [gath] at h
          exact (go (p := c)).2 h n j id hj
        | _ => simp [gath] at h, fun {ds} _ h => by cases ds <;> simp [gaths] at h⟩
    | .nil => ⟨fun {d} _ h => by simp [gath] at h, fun {ds} _ h n j id hj => by
        cases ds with
        | nil => simp [orgss] at hj
        | cons _ _ => simp [gaths] at h⟩
    | .cons p q => ⟨fun {d} _ h => by simp [gath] at h, fun {ds} x h n j id hj => by
        cases ds with
        | nil => simp [gaths] at h
        | cons d ds =>
          simp only [gaths] at h
          cases h1 : gath look p d with
          | none => rw [h1] at h; simp at h
          | some y =>
            cases h2 : gaths look q ds with
            | none => rw [h1, h2] at h; simp at h
            | some z =>
              rw [h1, h2] at h
              simp only [Option.some.injEq] at h
              subst h
              simp only [orgss] at hj
              have hl : (orgs look p d).length = p.cnt := (gaths_len.go (p := p)).1 h1
              have hn := scat_n p y n
              rcases Nat.lt_or_ge j (orgs look p d).length with hlt | hge
              · rw [List.getElem?_append_left hlt] at hj
                obtain ⟨ob, ob', k1, k2, k3⟩ := (go (p := p)).1 h1 n j id hj
                refine ⟨ob, ob', k1, ?_, k3⟩
                simp only [scat]
                rw [getM_app, scat_keyT _ _ (by omega)]
                exact k2
              · rw [List.getElem?_append_right hge] at hj
                obtain ⟨ob, ob', k1, k2, k3⟩ := (go (p := q)).2 h2 (scat p y n).n _ id hj
                refine ⟨ob, ob', k1, ?_, k3⟩
                simp only [scat]
                rw [getM_app, scat_keyF _ _ (by omega), show n + j = (scat p y n).n + (j - (orgs look p d).length) from by omega]
                exact k2⟩

theorem gaths_like {look : Nat → Option Ob} {p : CP} {ds : List D} {x : p.T} (h : gaths look p ds = some x) (n j id : Nat) (hj : (orgss look p ds)[j]? = some (some id)) : ∃ ob ob', look id = some ob ∧ getM (scat p x n).m (n + j) = some ob' ∧ like ob ob' := by
  obtain ⟨ob, ob', h1, h2, h3⟩ := gaths_like2 h n j id hj
  exact ⟨ob, ob', h1, h2, h3.1⟩
theorem idAt_some : ∀ {l : List (Option Nat)} {i x : Nat}, idAt l i = some x → l[i]? = some (some x)
  | [], _, _, h => by simp [idAt] at h
  | o :: _, 0, x, h => by
    simp only [idAt] at h
    subst h
    rfl
  | _ :: r, i + 1, x, h => by
    simp only [idAt] at h
    simpa using idAt_some h
/-- A slice handed over is told by its number. -/
theorem sf_hand {cell : Addr → Option Value} {G G' : Nat → Prop} {look get' : Nat → Option Ob} {γ γ' : Gam} {i j : Nat} {ob ob' : Ob} (k1 : look i = some ob) (k2 : get' j = some ob') (k3 : like ob ob') (hg : γ' j = γ i) {v : Value} (hs : RepD cell G look γ (.sf i) v) : RepD cell G' get' γ' (.sf j) v := by
  simp only [RepD] at hs ⊢
  refine ⟨hs.1, ?_⟩
  have hs2 := hs.2
  rw [k1] at hs2
  rw [k2]
  cases ob with
  | cells _ => cases ob' with
    | cells _ => trivial
    | opt _ _ => trivial
    | _ => simp [like] at k3
  | opt _ _ => cases ob' with
    | cells _ => trivial
    | opt _ _ => trivial
    | _ => simp [like] at k3
  | mp _ _ _ _ => cases ob' with
    | mp _ _ _ _ =>
      simp only at hs2 ⊢
      rw [hd_of hg]
      exact hs2
    | _ => simp [like] at k3
  | arr c xs hl => cases ob' with
    | arr c' ys hl' =>
      simp only [like] at k3
      simp only at hs2 ⊢
      rw [hd_of hg, ← k3]
      exact hs2
    | _ => simp [like] at k3
  | buf e xs => cases ob' with
    | buf e' ys =>
      simp only [like] at k3
      simp only at hs2 ⊢
      rw [hd_of hg, ← k3.2]
      exact hs2
    | bh e' ys _ _ _ =>
      simp only [like] at k3
      simp only at hs2 ⊢
      rw [hd_of hg, ← k3.2]
      exact hs2
    | _ => simp [like] at k3
  | bh e xs _ _ _ => cases ob' with
    | buf e' ys =>
      simp only [like] at k3
      simp only at hs2 ⊢
      rw [hd_of hg, ← k3.2]
      exact hs2
    | bh e' ys _ _ _ =>
      simp only [like] at k3
      simp only at hs2 ⊢
      rw [hd_of hg, ← k3.2]
      exact hs2
    | _ => simp [like] at k3

/-- The numbers are new, or are told as those of elements apart. -/
def bt2 (p : CP) (n : Nat) : Nat → Prop := fun id => btw n (n + p.cnt) id ∨ ∃ q ∈ p.hols n, q.2 = id
theorem scat_bnd : ∀ (p : CP) (x : p.T) (n : Nat), bnds (btw n (n + p.cnt)) (scat p x n).ds ∧ ∀ id ob, getM (scat p x n).m id = some ob → bnds (bt2 p n) ob.dsOf
  | .cst p, x, n => ⟨by cases p <;> simp only [scat, bnds, D.bnd, cond] <;> exact ⟨trivial, trivial⟩, fun id ds h => by simp [scat, getM] at h⟩
  | .val t, x, n => ⟨by simp only [scat, bnds, D.bnd]; exact ⟨trivial, trivial⟩, fun id ds h => by simp [scat, getM] at h⟩
  | .iv _ _, x, n => ⟨by simp only [scat, bnds, D.bnd]; exact ⟨trivial, trivial⟩, fun id ds h => by simp [scat, getM] at h⟩
  | .gi, x, n => ⟨by simp only [scat, bnds, D.bnd]; exact ⟨trivial, trivial⟩, fun id ds h => by simp [scat, getM] at h⟩
  | .own e, x, n => ⟨by simp only [scat, bnds, D.bnd, btw, CP.cnt]; exact ⟨⟨by omega, by omega⟩, trivial⟩, fun id ds h => by
      simp only [scat] at h
      rw [getM_cons] at h
      split at h
      · simp only [Option.some.injEq] at h; subst h; trivial
      · simp [getM] at h⟩
  | .arr e, x, n => ⟨by simp only [scat, bnds, D.bnd, btw, CP.cnt]; exact ⟨⟨by omega, by omega⟩, trivial⟩, fun id ds h => by
      simp only [scat] at h
      rw [getM_cons] at h
      split at h
      · simp only [Option.some.injEq] at h; subst h; trivial
      · simp [getM] at h⟩
  | .opt e, x, n => ⟨by simp only [scat, bnds, D.bnd, btw, CP.cnt]; exact ⟨⟨by omega, by omega⟩, trivial⟩, fun id ds h => by
      simp only [scat] at h
      rw [getM_cons] at h
      split at h
      · simp only [Option.some.injEq] at h; subst h; trivial
      · simp [getM] at h⟩
  | .hol c j, x, n => ⟨by simp only [scat, bnds, D.bnd, btw, CP.cnt]; exact ⟨⟨by omega, by omega⟩, trivial⟩, fun id ds h => by
      simp only [scat] at h
      rw [getM_cons] at h
      split at h
      · simp only [Option.some.injEq] at h
        subst h
        simp only [Ob.dsOf, bnds, D.bnd, and_true]
        exact .inr ⟨(n, j), by simp [CP.hols], rfl⟩
      · simp [getM] at h⟩
  | .mp k e, x, n => ⟨by simp only [scat, bnds, D.bnd, btw, CP.cnt]; exact ⟨⟨by omega, by omega⟩, trivial⟩, fun id ds h => by
      simp only [scat] at h
      rw [getM_cons] at h
      split at h
      · simp only [Option.some.injEq] at h; subst h; trivial
      · simp [getM] at h⟩
  | .ptr k c, x, n => by
    obtain ⟨h1, h2⟩ := scat_bnd c x (n + 1)
    have hm : ∀ id, btw (n + 1) (n + 1 + c.cnt) id → btw n (n + (CP.ptr k c).cnt) id := fun id h => by
      unfold btw at *
      simp only [CP.cnt]
      omega
    have hm3 : ∀ id, bt2 c (n + 1) id → bt2 (CP.ptr k c) n id := fun id h => h.elim (fun h => .inl (hm id h)) .inr
    refine ⟨by simp only [scat, bnds, D.bnd, btw, CP.cnt]; exact ⟨⟨by omega, by omega⟩, trivial⟩, fun id ds h => ?_⟩
    simp only [scat] at h
    rw [getM_cons] at h
    split at h
    · simp only [Option.some.injEq] at h
      subst h
      exact bnds_mono (fun id h => .inl (hm id h)) h1
    · exact bnds_mono hm3 (h2 id ds h)
  | .ip t0 c, x, n => by
    obtain ⟨h1, h2⟩ := scat_bnd c x (n + 1)
    have hm : ∀ id, btw (n + 1) (n + 1 + c.cnt) id → btw n (n + (CP.ip t0 c).cnt) id := fun id h => by
      unfold btw at *
      simp only [CP.cnt]
      omega
    have hm3 : ∀ id, bt2 c (n + 1) id → bt2 (CP.ip t0 c) n id := fun id h => h.elim (fun h => .inl (hm id h)) .inr
    refine ⟨by simp only [scat, bnds, D.bnd, btw, CP.cnt]; exact ⟨⟨by omega, by omega⟩, trivial⟩, fun id ds h => ?_⟩
    simp only [scat] at h
    rw [getM_cons] at h
    split at h
    · simp only [Option.some.injEq] at h
      subst h
      exact bnds_mono (fun id h => .inl (hm id h)) h1
    · exact bnds_mono hm3 (h2 id ds h)
  | .clo f c, x, n => by
    obtain ⟨h1, h2⟩ := scat_bnd c x n
    exact ⟨by simp only [scat, bnds, D.bnd]; exact ⟨h1, trivial⟩, h2⟩
  | .ag c, x, n => by
    obtain ⟨h1, h2⟩ := scat_bnd c x n
    exact ⟨by simp only [scat, bnds, D.bnd]; exact ⟨h1, trivial⟩, h2⟩
  | .nil, x, n => ⟨by simp only [scat, bnds], fun id ds h => by simp [scat, getM] at h⟩
  | .cons a b, x, n => by
    obtain ⟨h1, h2⟩ := scat_bnd a x.1 n
    obtain ⟨h3, h4⟩ := scat_bnd b x.2 (scat a x.1 n).n
    have hn := scat_n a x.1 n
    have hm : ∀ id, btw n (n + a.cnt) id → btw n (n + (CP.cons a b).cnt) id := fun id h => by
      unfold btw at *
      simp only [CP.cnt]
      omega
    have hm2 : ∀ id, btw (scat a x.1 n).n ((scat a x.1 n).n + b.cnt) id → btw n (n + (CP.cons a b).cnt) id := fun id h => by
      unfold btw at *
      simp only [CP.cnt]
      omega
    refine ⟨bnds_append (bnds_mono hm h1) (bnds_mono hm2 h3), fun id ds h => ?_⟩
    simp only [scat] at h
    rw [getM_app] at h
    split at h
    · exact bnds_mono (fun id h => h.elim (fun h => .inl (hm id h)) (fun ⟨q, hq, e⟩ => .inr ⟨q, List.mem_append_left _ hq, e⟩)) (h2 id ds h)
    · exact bnds_mono (fun id h => h.elim (fun h => .inl (hm2 id h)) (fun ⟨q, hq, e⟩ => .inr ⟨q, List.mem_append_right _ (hn ▸ hq), e⟩)) (h4 id ds h)

theorem somes_mem : ∀ {l : List (Option Nat)} {x : Nat}, x ∈ somes l ↔ some x ∈ l
  | [], x => by simp [somes]
  | some y :: r, x => by
    simp only [somes, List.mem_cons, Option.some.injEq]
    rw [somes_mem]
  | none :: r, x => by
    simp only [somes, List.mem_cons]
    rw [somes_mem]
    simp
theorem any_beq {l : List Nat} {x : Nat} : l.any (Nat.beq x) = true ↔ x ∈ l := by
  rw [List.any_eq_true]
  constructor
  · rintro ⟨y, h1, h2⟩
    exact Nat.eq_of_beq_eq_true h2 ▸ h1
  · exact fun h => ⟨x, h, Nat.beq_refl x⟩
/-- Each is handed over once. -/
theorem somes_once : ∀ {l : List (Option Nat)}, nodupB (somes l) = true → ∀ {i j x : Nat}, l[i]? = some (some x) → l[j]? = some (some x) → i = j
  | [], _, i, j, x, h1, _ => by simp at h1
  | none :: r, h, i, j, x, h1, h2 => by
    simp only [somes] at h
    cases i with
    | zero => simp at h1
    | succ i =>
      cases j with
      | zero => simp at h2
      | succ j => exact congrArg (· + 1) (somes_once h (by simpa using h1) (by simpa using h2))
  | some y :: r, h, i, j, x, h1, h2 => by
    simp only [somes, nodupB, Bool.and_eq_true, Bool.not_eq_true'] at h
    have hno : ∀ k, r[k]? ≠ some (some y) := fun k hk => by
      have := somes_mem.2 (List.mem_of_getElem? hk)
      have := any_beq.2 this
      rw [h.1] at this
      cases this
    cases i with
    | zero =>
      simp only [List.getElem?_cons_zero, Option.some.injEq] at h1
      subst h1
      cases j with
      | zero => rfl
      | succ j => exact absurd (by simpa using h2) (hno j)
    | succ i =>
      cases j with
      | zero =>
        simp only [List.getElem?_cons_zero, Option.some.injEq] at h2
        subst h2
        exact absurd (by simpa using h1) (hno i)
      | succ j => exact congrArg (· + 1) (somes_once h.2 (by simpa using h1) (by simpa using h2))

/-- Slots told. -/
theorem zip_slot {B : Nat → Prop} {cell : Addr → Option Value} {G : Nat → Prop} {get : Nat → Option Ob} {γ : Gam} {f : Nat → Value} {keep : Env} : ∀ {slots : List Nat} {ds : List D}, RepDs cell G get γ ds (slots.map f) → bnds B ds → (∀ d ∈ ds, d.isGd = false) →
    (∀ s, SlotRep B cell G get γ f (getE keep s) (f s) ∧ (getE keep s).bnd B) → ∀ s, SlotRep B cell G get γ f (getE (zipE slots ds ++ keep) s) (f s) ∧ (getE (zipE slots ds ++ keep) s).bnd B
  | [], ds, h, hb, hg, hk, s => by simpa only [zipE, List.nil_append] using hk s
  | q :: r, [], h, hb, hg, hk, s => by simp [RepDs] at h
  | q :: r, d :: ds, h, hb, hg, hk, s => by
    simp only [RepDs, List.map_cons] at h
    obtain ⟨v, us, h1, h2, h3⟩ := h
    simp only [List.cons.injEq] at h1
    obtain ⟨rfl, rfl⟩ := h1
    simp only [bnds] at hb
    simp only [zipE, List.cons_append]
    rw [getE_cons]
    split
    · rename_i e
      subst e
      refine ⟨?_, hb.1⟩
      have := hg d List.mem_cons_self
      cases d with
      | gd _ _ _ => cases this
      | kn _ _ => cases this
      | _ => simpa only [SlotRep] using h2
    · exact zip_slot h3 hb.2 (fun d hd => hg d (List.mem_cons_of_mem _ hd)) hk s
theorem junk_slot {B : Nat → Prop} {cell : Addr → Option Value} {G : Nat → Prop} {get : Nat → Option Ob} {γ : Gam} {f : Nat → Value} (s : Nat) : SlotRep B cell G get γ f (getE [] s) (f s) ∧ (getE [] s).bnd B := by
  simp only [getE, SlotRep, RepD]
  exact ⟨trivial, trivial⟩
theorem Rel.reps (r : Rel F B env S γ a W) : ∀ (slots : List Nat), RepDs W.cell? (Frz F S γ W) S.get γ (slots.map (getE env)) (slots.map fun s => a.tmps.getD s undef)
  | [] => by simp only [List.map_nil, RepDs]
  | s :: q => by
    simp only [List.map_cons, RepDs]
    exact ⟨_, _, rfl, (r.at s).1, r.reps q⟩

/-- The frame of what is handed over. -/
def handF (F : Fm) (S : St) (γ : Gam) (W : World) (p : CP) (ds : List D) (gt : ∀ b, (Frz F (S.rm (idsVs S.get p ds)) γ W b ∧ ¬ ∃ id c, some id ∈ orgss S.get p ds ∧ (b, c) ∈ γ id) → b < W.heap.size ∧ ¬ ∃ id c, some id ∈ orgss S.get p ds ∧ (b, c) ∈ γ id) : Fm :=
  ⟨W, fun b => ∃ id c, some id ∈ orgss S.get p ds ∧ (b, c) ∈ γ id, fun b => Frz F (S.rm (idsVs S.get p ds)) γ W b ∧ ¬ ∃ id c, some id ∈ orgss S.get p ds ∧ (b, c) ∈ γ id, F.n, gt⟩
def handG (S : St) (γ : Gam) (p : CP) (ds : List D) : Gam := fun j => match (orgss S.get p ds)[j]? with
  | some o => blk γ o
  | none => []

theorem holsB_mem {look : Nat → Option Ob} {og : List (Option Nat)} : ∀ {l : List (Nat × Nat)}, holsB look og l = true → ∀ q ∈ l, ∃ (id f : Nat) (c : CP) (xs : List c.T) (k : Nat), idAt og q.1 = some id ∧ idAt og q.2 = some f ∧ look id = some (.arr c xs (some (k, .sf f)))
  | [], _, q, hq => absurd hq List.not_mem_nil
  | p :: l, h, q, hq => by
    simp only [holsB, Bool.and_eq_true] at h
    rcases List.mem_cons.1 hq with rfl | hq
    · have h1 := h.1
      unfold holIn at h1
      split at h1
      · rename_i id f e1 e2
        split at h1
        · rename_i c xs k f' e3
          have := Nat.eq_of_beq_eq_true h1
          subst this
          exact ⟨id, f, c, xs, k, e1, e2, e3⟩
        · cases h1
      · cases h1
    · exact holsB_mem h.2 q hq
theorem hand_ok {slots : List Nat} {p : CP} {x : p.T} {gt} (r : Rel F B env S γ a W) (hb : handB S p (slots.map (getE env)) = true) (hx : gaths S.get p (slots.map (getE env)) = some x) :
    Rel (handF F S γ W p (slots.map (getE env)) gt) (lt (scat p x 0).n) (zipE slots (scat p x 0).ds) ⟨(scat p x 0).n, (scat p x 0).m⟩ (handG S γ p (slots.map (getE env))) a W ∧
    RepDs W.cell? (Frz (handF F S γ W p (slots.map (getE env)) gt) ⟨(scat p x 0).n, (scat p x 0).m⟩ (handG S γ p (slots.map (getE env))) W) (getM (scat p x 0).m) (handG S γ p (slots.map (getE env))) (scat p x 0).ds (slots.map fun s => a.tmps.getD s undef) := by
  have hreps := r.reps slots
  generalize slots.map (getE env) = ds at hb hx hreps gt
  simp only [handB, Bool.and_eq_true] at hb
  obtain ⟨⟨hnd, hdj⟩, hhb⟩ := hb
  have hhol := holsB_mem hhb
  have hp := r.hp
  have hthere := gaths_there hx
  -- tracked blocks are handed over
  have hmem : ∀ {j b c}, (b, c) ∈ handG S γ p ds j → ∃ id, (orgss S.get p ds)[j]? = some (some id) ∧ (b, c) ∈ γ id := fun {j b c} h2 => by
    unfold handG at h2
    split at h2
    · rename_i o ho
      cases o with
      | none => cases h2
      | some id => exact ⟨id, ho, h2⟩
    · cases h2
  have htr : ∀ b, tracked ⟨(scat p x 0).n, (scat p x 0).m⟩ (handG S γ p ds) b → ∃ id c, some id ∈ orgss S.get p ds ∧ (b, c) ∈ γ id := fun b hb => by
    obtain ⟨j, ob, c, h1, h2⟩ := hb
    obtain ⟨id, h3, h4⟩ := hmem h2
    exact ⟨id, c, List.mem_of_getElem? h3, h4⟩
  have hsub := (hp.rm (idsVs S.get p ds)).1
  have hq := gaths_rep (G' := Frz (handF F S γ W p ds gt) ⟨(scat p x 0).n, (scat p x 0).m⟩ (handG S γ p ds) W) hp (fun b hb => by
    have hno : ¬ ∃ id c, some id ∈ orgss S.get p ds ∧ (b, c) ∈ γ id := by
      rintro ⟨id, c, h1, h2⟩
      cases ho : S.get id with
      | none => exact hthere id h1 ho
      | some ob => exact hb.2.2 ⟨id, ob, c, ho, h2⟩
    exact ⟨.inl ⟨hsub.frz hb, hno⟩, hb.2.1, fun ht => hno (htr b ht)⟩) hx hreps (fun id hid hne g c hg => by
    have hne' : ∃ ob, S.get id = some ob := by
      cases ho : S.get id with
      | none => exact absurd ho hne
      | some ob => exact ⟨ob, rfl⟩
    obtain ⟨ob, ho⟩ := hne'
    have hz := hp.frozen hid ho hg
    have hno : ¬ ∃ id c, some id ∈ orgss S.get p ds ∧ (g, c) ∈ γ id := by
      rintro ⟨id', c', h1, h2⟩
      cases ho' : S.get id' with
      | none => exact hthere id' h1 ho'
      | some ob' =>
        have e := hp.inj id id' ob ob' g c c' ho ho' hg h2
        subst e
        have h3 := (List.all_eq_true.1 hdj) id (somes_mem.2 h1)
        rw [Bool.not_eq_true', Bool.eq_false_iff] at h3
        exact h3 (any_beq.2 hid)
    exact ⟨.inl ⟨hz, hno⟩, hz.2.1, fun ht => hno (htr g ht)⟩)
  have hlen := hq.len
  rw [List.length_map] at hlen
  obtain ⟨k1, k2⟩ := scat_rep (n := 0) (γ := handG S γ p ds) (get := getM (scat p x 0).m) hq (fun j o ho => by
    rw [List.getElem?_map] at ho
    unfold handG
    rw [Nat.zero_add]
    cases hj : (orgss S.get p ds)[j]? with
    | none => rw [hj] at ho; simp at ho
    | some o' =>
      rw [hj] at ho
      simpa using ho) (fun _ _ _ => rfl) (fun q hq => by
    obtain ⟨id, f, c0, xs0, k0, q1, q2, q3⟩ := hhol q hq
    intro c xs k d e1 g cap r us t w y e2 e3 e4 e5
    obtain ⟨ob, ob', l1, l2, l3, l4⟩ := gaths_like2 hx 0 q.1 id (idAt_some q1)
    rw [Nat.zero_add] at l2
    rw [l2] at e1
    simp only [Option.some.injEq] at e1
    obtain ⟨d', l5⟩ := l4 c xs k d e1
    rw [l5, q3] at l1
    simp only [Option.some.injEq] at l1
    cases l1
    have hob := hp.obs id _ q3
    simp only [ObRep] at hob
    rcases hob with ⟨_, _, h3⟩ | ⟨g', cap', us', t', bls', p1, p2, p3, p4, p5, p6, p7⟩
    · cases h3
    · have hgi : handG S γ p ds q.1 = γ id := by unfold handG; rw [idAt_some q1]; rfl
      rw [hgi, p1] at e2
      simp only [List.cons.injEq, Prod.mk.injEq] at e2
      obtain ⟨⟨rfl, rfl⟩, _⟩ := e2
      rw [p2] at e3
      simp only [Option.some.injEq, Obj.cells.injEq] at e3
      obtain ⟨rfl, _⟩ := e3
      obtain ⟨w', b, w1, _, w3⟩ := p7 _ y e4
      rw [w1] at e5
      simp only [Option.some.injEq] at e5
      subst e5
      obtain ⟨obf, obf', m1, m2, m3⟩ := gaths_like hx 0 q.2 f (idAt_some q2)
      rw [Nat.zero_add] at m2
      exact sf_hand m1 m2 m3 (by unfold handG; rw [idAt_some q2]; rfl) (w3.1 rfl).2)
  have hn := scat_n p x 0
  have hbm : ∀ id, btw 0 (0 + p.cnt) id → lt (scat p x 0).n id := fun id h => by
    unfold btw at h
    unfold lt
    omega
  obtain ⟨b1, b2⟩ := scat_bnd p x 0
  have hslots := zip_slot (keep := []) (f := fun s => a.tmps.getD s undef) k1 (bnds_mono hbm b1) (scat_nogd p x 0) (fun s => junk_slot s)
  simp only [List.append_nil] at hslots
  refine ⟨⟨⟨fun id ob ho => k2 id ob ho, fun id id' ob ob' g c c' h1 h2 h3 h4 => ?_, fun id ob ho => ?_, fun b hb => ?_, ⟨rfl, rfl, rfl, Nat.le_refl _, fun _ _ _ => rfl⟩, fun id ob ho => ?_⟩, fun s => (hslots s).1, r.defers, r.size, fun s => (hslots s).2⟩, k1⟩
  · obtain ⟨i, q1, q2⟩ := hmem h3
    obtain ⟨i', q3, q4⟩ := hmem h4
    cases hi : S.get i with
    | none => exact absurd hi (hthere i (List.mem_of_getElem? q1))
    | some ob1 =>
      cases hi' : S.get i' with
      | none => exact absurd hi' (hthere i' (List.mem_of_getElem? q3))
      | some ob2 =>
        have e := hp.inj i i' ob1 ob2 g c c' hi hi' q2 q4
        subst e
        exact somes_once hnd q1 q3
  · unfold handG
    split
    · rename_i o ho'
      cases o with
      | none => simp [blk]
      | some i =>
        cases hi : S.get i with
        | none => exact absurd hi (hthere i (List.mem_of_getElem? ho'))
        | some ob1 => exact hp.nd i ob1 hi
    · simp
  · refine ⟨.inl (htr b hb), ?_⟩
    obtain ⟨id, c, h1, h2⟩ := htr b hb
    cases ho : S.get id with
    | none => exact absurd ho (hthere id h1)
    | some ob => exact hp.blt ho h2
  · refine ⟨hbm id (scat_some p x 0 ho), bnds_mono (fun i h => ?_) (b2 id ob ho)⟩
    rcases h with h | ⟨q, hq, rfl⟩
    · exact hbm i h
    · obtain ⟨id, f, c0, xs0, k0, q1, q2, q3⟩ := hhol q hq
      obtain ⟨obf, obf', m1, m2, m3⟩ := gaths_like hx 0 q.2 f (idAt_some q2)
      rw [Nat.zero_add] at m2
      exact hbm _ (scat_some p x 0 m2)
end
end Go.XD


/- Handing back; pieces; code. -/
namespace Go.XD


/-! ### Objects under other names -/
theorem idAt_of : ∀ {l : List (Option Nat)} {i x : Nat}, l[i]? = some (some x) → idAt l i = some x
  | [], _, _, h => by simp at h
  | o :: r, 0, x, h => by simpa [idAt] using h
  | o :: r, i + 1, x, h => by
    simp only [idAt]
    exact idAt_of (by simpa using h)
theorem like_ren (ρ : Nat → Nat) (ob : Ob) : like ob (renOb ρ ob) := by cases ob <;> simp [like, renOb]

section
variable {cell : Addr → Option Value} {G G' : Nat → Prop} {get get' : Nat → Option Ob} {γ γ' : Gam} {B B' : Nat → Prop} {ρ : Nat → Nat}
mutual
theorem RepD.ren (hG : ∀ b, G b → G' b) (h : ∀ id, B id → γ' (ρ id) = γ id ∧ get' (ρ id) = (get id).map (renOb ρ)) : ∀ {d : D} {v : Value}, d.bnd B → RepD cell G get γ d v → RepD cell G' get' γ' (XD.ren ρ d) v
  | .junk, _, _, _ => by simp only [XD.ren, RepD]
  | .fz t x, v, _, r => by simp only [XD.ren, RepD] at r ⊢; exact r.mono (fun _ _ => rfl) hG
  | .fp fs x off, v, _, r => by
    simp only [XD.ren, RepD] at r ⊢
    obtain ⟨ad, h1, h2, h3, h4⟩ := r
    exact ⟨ad, h1, hG _ h2, h3.mono (fun _ _ => rfl) hG, h4⟩
  | .nilp, _, _, r => by simp only [XD.ren, RepD] at r ⊢; exact r
  | .nils, _, _, r => by simp only [XD.ren, RepD] at r ⊢; exact r
  | .nt _, _, _, r => by simp only [XD.ren, RepD] at r ⊢; exact r
  | .stp _, _, _, r => by simp only [XD.ren, RepD] at r ⊢; exact r
  | .ifc t d, v, hb, r => by
    simp only [D.bnd] at hb
    simp only [XD.ren, RepD] at r ⊢
    obtain ⟨w, h1, h2⟩ := r
    exact ⟨w, h1, RepD.ren hG h hb h2⟩
  | .ptr id off, v, hb, r => by
    simp only [D.bnd] at hb
    simp only [XD.ren, RepD] at r ⊢
    obtain ⟨r0, r⟩ := r
    obtain ⟨h1, h2⟩ := h id hb
    refine ⟨r0, ?_⟩
    rw [hd_of h1, h2]
    cases hg : get id with
    | none => trivial
    | some ob =>
      rw [hg] at r
      cases ob <;> simp [renOb] at r ⊢ <;> exact r
  | .bp id i off, v, hb, r => by
    simp only [D.bnd] at hb
    simp only [XD.ren, RepD] at r ⊢
    obtain ⟨r0, r⟩ := r
    obtain ⟨h1, h2⟩ := h id hb
    refine ⟨r0, ?_⟩
    rw [hd_of h1, h2]
    cases hg : get id with
    | none => trivial
    | some ob =>
      rw [hg] at r
      cases ob <;> simp [renOb] at r ⊢ <;> exact r
  | .sf id, v, hb, r => by
    simp only [D.bnd] at hb
    simp only [XD.ren, RepD] at r ⊢
    obtain ⟨r0, r⟩ := r
    obtain ⟨h1, h2⟩ := h id hb
    refine ⟨r0, ?_⟩
    rw [hd_of h1, h2]
    cases hg : get id with
    | none => trivial
    | some ob =>
      rw [hg] at r
      cases ob <;> simp [renOb] at r ⊢ <;> exact r
  | .clo f ds, v, hb, r => by
    simp only [D.bnd] at hb
    simp only [XD.ren, RepD] at r ⊢
    obtain ⟨vs, h1, h2⟩ := r
    exact ⟨vs, h1, RepDs.ren hG h hb h2⟩
  | .ag ds, v, hb, r => by
    simp only [D.bnd] at hb
    simp only [XD.ren, RepD] at r ⊢
    obtain ⟨vs, h1, h2⟩ := r
    exact ⟨vs, h1, RepDs.ren hG h hb h2⟩
  | .tup ds, v, hb, r => by
    simp only [D.bnd] at hb
    simp only [XD.ren, RepD] at r ⊢
    obtain ⟨vs, h1, h2⟩ := r
    exact ⟨vs, h1, RepDs.ren hG h hb h2⟩
  | .gd _ _ _, _, _, _ => by simp only [XD.ren, RepD]
  | .kn _ _, _, _, _ => by simp only [XD.ren, RepD]
theorem RepDs.ren (hG : ∀ b, G b → G' b) (h : ∀ id, B id → γ' (ρ id) = γ id ∧ get' (ρ id) = (get id).map (renOb ρ)) : ∀ {ds : List D} {vs : List Value}, bnds B ds → RepDs cell G get γ ds vs → RepDs cell G' get' γ' (rens ρ ds) vs
  | [], _, _, r => by simp only [rens, RepDs] at r ⊢; exact r
  | d :: ds, vs, hb, r => by
    simp only [bnds] at hb
    simp only [rens, RepDs] at r ⊢
    obtain ⟨v, q, h1, h2, h3⟩ := r
    exact ⟨v, q, h1, RepD.ren hG h hb.1 h2, RepDs.ren hG h hb.2 h3⟩
end
mutual
theorem ren_bnd (h : ∀ id, B id → B' (ρ id)) : ∀ {d : D}, d.bnd B → (ren ρ d).bnd B'
  | .ptr _ _, k => by simp only [XD.ren, D.bnd] at k ⊢; exact h _ k
  | .bp _ _ _, k => by simp only [XD.ren, D.bnd] at k ⊢; exact h _ k
  | .sf _, k => by simp only [XD.ren, D.bnd] at k ⊢; exact h _ k
  | .clo _ ds, k => by simp only [XD.ren, D.bnd] at k ⊢; exact rens_bnd h k
  | .ag ds, k => by simp only [XD.ren, D.bnd] at k ⊢; exact rens_bnd h k
  | .tup ds, k => by simp only [XD.ren, D.bnd] at k ⊢; exact rens_bnd h k
  | .gd _ _ _, _ => trivial
  | .kn _ _, _ => trivial
  | .junk, _ => trivial
  | .fz _ _, _ => trivial
  | .fp _ _ _, _ => trivial
  | .nilp, _ => trivial
  | .nils, _ => trivial
  | .nt _, _ => trivial
  | .ifc _ d, k => by simp only [XD.ren, D.bnd] at k ⊢; exact ren_bnd h k
  | .stp _, _ => trivial
theorem rens_bnd (h : ∀ id, B id → B' (ρ id)) : ∀ {ds : List D}, bnds B ds → bnds B' (rens ρ ds)
  | [], _ => trivial
  | d :: ds, k => by simp only [rens, bnds] at k ⊢; exact ⟨ren_bnd h k.1, rens_bnd h k.2⟩
end
theorem ren_nogd : ∀ {ds : List D}, (∀ d ∈ ds, d.isGd = false) → ∀ d ∈ rens ρ ds, d.isGd = false
  | [], _, d, h => by simp [rens] at h
  | x :: r, hx, d, h => by
    simp only [rens, List.mem_cons] at h
    rcases h with rfl | h
    · have := hx x List.mem_cons_self
      cases x <;> simp_all [XD.ren, D.isGd]
    · exact ren_nogd (fun d hd => hx d (List.mem_cons_of_mem _ hd)) d h
theorem ObRep.ren {W : World} (hG : ∀ b, G b → G' b) (h : ∀ id, B id → γ' (ρ id) = γ id ∧ get' (ρ id) = (get id).map (renOb ρ)) {id : Nat} {ob : Ob} (hid : B id) (hb : bnds B ob.dsOf) (r : ObRep W G get γ id ob) : ObRep W G' get' γ' (ρ id) (renOb ρ ob) := by
  have h1 := (h id hid).1
  cases ob with
  | opt c x =>
    obtain ⟨v, r⟩ := r
    refine ⟨v, ?_⟩
    rw [h1]
    exact r.mono hG
  | mp k e es n =>
    obtain ⟨v, r⟩ := r
    refine ⟨v, ?_⟩
    rw [h1]
    exact r.mono hG
  | arr c xs hl =>
    rcases r with ⟨k1, k2, k3⟩ | ⟨g, cap, us, t, bls, k1, k2, k3, k4, k5, k6, k7⟩
    · subst k3
      exact .inl ⟨h1.trans k1, k2, rfl⟩
    · refine .inr ⟨g, cap, us, t, bls, h1.trans k1, k2, k3, k4, k5, k6, fun i x hx => ?_⟩
      obtain ⟨v, b, q1, q2, q3⟩ := k7 i x hx
      refine ⟨v, b, q1, q2, ?_⟩
      cases hl with
      | none => exact RepQ.mono hG q3
      | some q =>
        obtain ⟨k, d⟩ := q
        simp only [Ob.dsOf, bnds] at hb
        exact ⟨fun e => ⟨(q3.1 e).1, (q3.1 e).2.ren hG h hb.1⟩, fun e => RepQ.mono hG (q3.2 e)⟩
  | bh e xs i off d =>
    obtain ⟨g, c, vs, t, v, u, k1, k2, k3, k4, k5, k6, k7, k8, k9, k10⟩ := r
    simp only [Ob.dsOf, bnds] at hb
    exact ⟨g, c, vs, t, v, u, h1.trans k1, k2, k3, k4, k5, k6, k7, k8, k9.ren hG h hb.1, fun i x hx => (k10 i x hx).mono (fun _ _ => rfl) hG⟩
  | cells ds =>
    obtain ⟨g, c, vs, t, k1, k2, k3⟩ := r
    exact ⟨g, c, vs, t, h1.trans k1, k2, k3.ren hG h hb⟩
  | buf e xs =>
    rcases r with ⟨k1, k2⟩ | ⟨g, c, vs, t, k1, k2, k3, k4, k5, k6⟩
    · exact .inl ⟨h1.trans k1, k2⟩
    · exact .inr ⟨g, c, vs, t, h1.trans k1, k2, k3, k4, k5, fun i x hx => (k6 i x hx).mono (fun _ _ => rfl) hG⟩
end

theorem renM_get {ρ : Nat → Nat} : ∀ {m : List (Nat × Option Ob)} {i : Nat}, (∀ q ∈ m, ρ q.1 = ρ i → q.1 = i) → getM (renM ρ m) (ρ i) = (getM m i).map (renOb ρ)
  | [], i, h => rfl
  | (k, o) :: r, i, h => by
    have h0 := h (k, o) List.mem_cons_self
    have hr := renM_get (ρ := ρ) (m := r) (i := i) (fun q hq => h q (List.mem_cons_of_mem _ hq))
    by_cases e : k = i
    · subst e
      cases o <;> simp only [renM] <;> rw [getM_cons, getM_cons, if_pos rfl, if_pos rfl] <;> rfl
    · have e' : ρ k ≠ ρ i := fun h => e (h0 h)
      cases o <;> simp only [renM] <;> rw [getM_cons, getM_cons, if_neg e', if_neg e] <;> exact hr
theorem renM_any {ρ : Nat → Nat} : ∀ {m : List (Nat × Option Ob)} {id : Nat}, (renM ρ m).any (fun q => Nat.beq q.1 id) = true ↔ ∃ q ∈ m, ρ q.1 = id
  | [], id => by simp [renM]
  | (k, o) :: r, id => by
    have hr := renM_any (ρ := ρ) (m := r) (id := id)
    cases o <;> simp only [renM, List.any_cons, Bool.or_eq_true, Nat.beq_eq, hr, List.mem_cons, exists_eq_or_imp]

theorem getE_app : ∀ (env keep : Env) (s : Nat), getE (env ++ keep) s = getE env s ∨ getE (env ++ keep) s = getE keep s
  | [], keep, s => .inr rfl
  | (k, d) :: r, keep, s => by
    rw [List.cons_append, getE_cons, getE_cons]
    split
    · exact .inl rfl
    · exact getE_app r keep s
theorem Rel.app {F : Fm} {B : Nat → Prop} {env keep : Env} {S : St} {γ : Gam} {a : Act} {W : World} (r : Rel F B env S γ a W) (h : ∀ s, SlotRep B W.cell? (Frz F S γ W) S.get γ (fun s => a.tmps.getD s undef) (getE keep s) (a.tmps.getD s undef) ∧ (getE keep s).bnd B) : Rel F B (env ++ keep) S γ a W := by
  refine ⟨r.hp, fun s => ?_, r.defers, r.size, fun s => ?_⟩
  · rcases getE_app env keep s with e | e <;> rw [e]
    · exact r.slots s
    · exact (h s).1
  · rcases getE_app env keep s with e | e <;> rw [e]
    · exact r.envB s
    · exact (h s).2

theorem Rel.app' {F : Fm} {B : Nat → Prop} {env keep : Env} {S : St} {γ : Gam} {a : Act} {W : World} (r : Rel F B env S γ a W) (h : ∀ s, SlotRep B W.cell? (Frz F S γ W) S.get γ (fun s => a.tmps.getD s undef) (getE keep s) (a.tmps.getD s undef) ∧ (getE keep s).bnd B) : Rel F B (keep ++ env) S γ a W := by
  refine ⟨r.hp, fun s => ?_, r.defers, r.size, fun s => ?_⟩
  · rcases getE_app keep env s with e | e <;> rw [e]
    · exact (h s).1
    · exact r.slots s
  · rcases getE_app keep env s with e | e <;> rw [e]
    · exact (h s).2
    · exact r.envB s
theorem ckL_some {β : Type} : ∀ {l : List Bool} {y : Option β} {r : β}, ckL l y = some r → (∀ b ∈ l, b = true) ∧ y = some r
  | [], y, r, h => ⟨fun b hb => (by cases hb), h⟩
  | b :: l, y, r, h => by
    simp only [ckL] at h
    cases b with
    | false => cases h
    | true =>
      obtain ⟨h1, h2⟩ := ckL_some (l := l) h
      exact ⟨fun b hb => by
        rcases List.mem_cons.1 hb with rfl | hb
        · rfl
        · exact h1 b hb, h2⟩
theorem ckL_all {β : Type} : ∀ {l : List Bool} {y : Option β}, (∀ b ∈ l, b = true) → ckL l y = y
  | [], y, h => rfl
  | b :: l, y, h => by
    simp only [ckL]
    rw [h b List.mem_cons_self, cond_true]
    exact ckL_all fun b hb => h b (List.mem_cons_of_mem _ hb)

/-- Slots that lead to what is handed over. -/
theorem als_ok {F : Fm} {B : Nat → Prop} {env : Env} {S : St} {γ : Gam} {a : Act} {W : World} {p : CP} {ds : List D} {x : p.T} {cell : Addr → Option Value} {G : Nat → Prop} (r : Rel F B env S γ a W) (hx : gaths S.get p ds = some x) :
    ∀ {als : Env}, alsB (orgss S.get p ds) env als = true → (∀ b ∈ idxB env als, b = true) → ∀ s, SlotRep (lt (scat p x 0).n) cell G (getM (scat p x 0).m) (handG S γ p ds) (fun s => a.tmps.getD s undef) (getE als s) (a.tmps.getD s undef) ∧ (getE als s).bnd (lt (scat p x 0).n)
  | [], _, _, s => junk_slot s
  | (k, d) :: q, h, hx2, s => by
    simp only [alsB, Bool.and_eq_true] at h
    rw [getE_cons]
    split
    · rename_i e
      subst e
      have hn := scat_n p x 0
      have h1 := h.1
      split at h1
      · rename_i j id hd
        split at h1
        · rename_i i hi
          have e := Nat.eq_of_beq_eq_true h1
          subst e
          have hog := idAt_some hi
          obtain ⟨ob, ob', k1, k2, k3⟩ := gaths_like hx 0 j i hog
          rw [Nat.zero_add] at k2
          have hj := scat_some p x 0 k2
          refine ⟨?_, by simp only [D.bnd]; unfold lt; omega⟩
          have hs := r.slots k
          rw [hd] at hs
          simp only [SlotRep, RepD] at hs ⊢
          refine ⟨hs.1, ?_⟩
          have hs2 := hs.2
          rw [k1] at hs2
          rw [k2]
          have hg : handG S γ p ds j = γ i := by unfold handG; rw [hog]; rfl
          cases ob with
          | cells _ => cases ob' with
            | cells _ => trivial
            | opt _ _ => trivial
            | _ => simp [like] at k3
          | opt _ _ => cases ob' with
            | cells _ => trivial
            | opt _ _ => trivial
            | _ => simp [like] at k3
          | mp _ _ _ _ => cases ob' with
            | mp _ _ _ _ =>
              simp only at hs2 ⊢
              rw [hd_of hg]
              exact hs2
            | _ => simp [like] at k3
          | arr c xs hl => cases ob' with
            | arr c' ys hl' =>
              simp only [like] at k3
              simp only at hs2 ⊢
              rw [hd_of hg, ← k3]
              exact hs2
            | _ => simp [like] at k3
          | buf e xs => cases ob' with
            | buf e' ys =>
              simp only [like] at k3
              simp only at hs2 ⊢
              rw [hd_of hg, ← k3.2]
              exact hs2
            | bh e' ys _ _ _ =>
              simp only [like] at k3
              simp only at hs2 ⊢
              rw [hd_of hg, ← k3.2]
              exact hs2
            | _ => simp [like] at k3
          | bh e xs _ _ _ => cases ob' with
            | buf e' ys =>
              simp only [like] at k3
              simp only at hs2 ⊢
              rw [hd_of hg, ← k3.2]
              exact hs2
            | bh e' ys _ _ _ =>
              simp only [like] at k3
              simp only at hs2 ⊢
              rw [hd_of hg, ← k3.2]
              exact hs2
            | _ => simp [like] at k3
        · cases h1
      · rename_i j o id o' hd
        rw [Bool.and_eq_true] at h1
        have e0 := Nat.eq_of_beq_eq_true h1.1
        subst e0
        have h2 := h1.2
        split at h2
        · rename_i i hi
          have e := Nat.eq_of_beq_eq_true h2
          subst e
          have hog := idAt_some hi
          obtain ⟨ob, ob', k1, k2, k3⟩ := gaths_like hx 0 j i hog
          rw [Nat.zero_add] at k2
          have hj := scat_some p x 0 k2
          refine ⟨?_, by simp only [D.bnd]; unfold lt; omega⟩
          have hs := r.slots k
          rw [hd] at hs
          simp only [SlotRep, RepD] at hs ⊢
          refine ⟨hs.1, ?_⟩
          have hs2 := hs.2
          rw [k1] at hs2
          rw [k2]
          have hg : handG S γ p ds j = γ i := by unfold handG; rw [hog]; rfl
          cases ob with
          | buf _ _ => cases ob' with
            | buf _ _ => trivial
            | bh _ _ _ _ _ => trivial
            | _ => simp [like] at k3
          | bh _ _ _ _ _ => cases ob' with
            | buf _ _ => trivial
            | bh _ _ _ _ _ => trivial
            | _ => simp [like] at k3
          | arr _ _ _ => cases ob' with
            | arr _ _ _ => trivial
            | _ => simp [like] at k3
          | mp _ _ _ _ => cases ob' with
            | mp _ _ _ _ => trivial
            | _ => simp [like] at k3
          | cells _ => cases ob' with
            | cells _ =>
              simp only at hs2 ⊢
              rw [hd_of hg]
              exact hs2
            | opt c y =>
              simp only [like] at k3
              simp only at hs2 ⊢
              rw [hd_of hg]
              exact ⟨fun _ => hs2, fun e => by rw [k3] at e; cases e⟩
            | _ => simp [like] at k3
          | opt c z => cases ob' with
            | cells _ =>
              simp only [like] at k3
              simp only at hs2 ⊢
              rw [hd_of hg]
              exact hs2.1 k3
            | opt c y =>
              simp only [like] at k3
              simp only [← k3] at hs2 ⊢
              rw [hd_of hg]
              exact hs2
            | _ => simp [like] at k3
        · cases h2
      · rename_i j i0 o id i1 o' hd
        rw [Bool.and_eq_true] at h1
        have e0 := Nat.eq_of_beq_eq_true h1.1
        subst e0
        have ei := hx2 (Nat.beq i0 i1) (by simp only [idxB]; rw [hd]; exact List.mem_cons_self)
        have ei := Nat.eq_of_beq_eq_true ei
        subst ei
        have h2 := h1.2
        split at h2
        · rename_i i hi
          have e := Nat.eq_of_beq_eq_true h2
          subst e
          have hog := idAt_some hi
          obtain ⟨ob, ob', k1, k2, k3⟩ := gaths_like hx 0 j i hog
          rw [Nat.zero_add] at k2
          have hj := scat_some p x 0 k2
          refine ⟨?_, by simp only [D.bnd]; unfold lt; omega⟩
          have hs := r.slots k
          rw [hd] at hs
          simp only [SlotRep, RepD] at hs ⊢
          refine ⟨hs.1, ?_⟩
          have hs2 := hs.2
          rw [k1] at hs2
          rw [k2]
          have hg : handG S γ p ds j = γ i := by unfold handG; rw [hog]; rfl
          cases ob with
          | buf e xs => cases ob' with
            | buf e' ys =>
              simp only [like] at k3
              simp only at hs2 ⊢
              rw [hd_of hg, ← k3.2, ← k3.1]
              exact hs2
            | bh e' ys _ _ _ =>
              simp only [like] at k3
              simp only at hs2 ⊢
              rw [hd_of hg, ← k3.2, ← k3.1]
              exact hs2
            | _ => simp [like] at k3
          | bh e xs _ _ _ => cases ob' with
            | buf e' ys =>
              simp only [like] at k3
              simp only at hs2 ⊢
              rw [hd_of hg, ← k3.2, ← k3.1]
              exact hs2
            | bh e' ys _ _ _ =>
              simp only [like] at k3
              simp only at hs2 ⊢
              rw [hd_of hg, ← k3.2, ← k3.1]
              exact hs2
            | _ => simp [like] at k3
          | arr e xs hl => cases ob' with
            | arr e' ys hl' =>
              simp only [like] at k3
              simp only at hs2 ⊢
              rw [hd_of hg, ← k3]
              exact hs2
            | _ => simp [like] at k3
          | mp _ _ _ _ => cases ob' with
            | mp _ _ _ _ => trivial
            | _ => simp [like] at k3
          | cells _ => cases ob' with
            | cells _ =>
              simp only at hs2 ⊢
              rw [hd_of hg]
              exact hs2
            | opt c y =>
              simp only at hs2 ⊢
              rw [hd_of hg]
              exact fun _ => hs2
            | _ => simp [like] at k3
          | opt c z => cases ob' with
            | cells _ =>
              simp only [like] at k3
              simp only at hs2 ⊢
              rw [hd_of hg]
              exact hs2 k3
            | opt c y =>
              simp only [like] at k3
              simp only [← k3] at hs2 ⊢
              rw [hd_of hg]
              exact hs2
            | _ => simp [like] at k3
        · cases h2
      · cases h1
    · exact als_ok r hx h.2 (fun b hb => hx2 b (by
        simp only [idxB]
        split
        · exact List.mem_cons_of_mem _ hb
        · exact hb)) s

section
variable {P : Program} {F : Fm} {B : Nat → Prop} {env : Env} {S : St} {γ : Gam} {a a' : Act} {W W' : World} {G' : Nat → Prop}

def backG (γ γ2 : Gam) (ρ : Nat → Nat) (c : Nat) : Gam := fun id => match (List.range c).find? (fun i => Nat.beq (ρ i) id) with
  | some i => γ2 i
  | none => γ id

theorem back_ok {p p2 : CP} {ds : List D} {x : p.T} {x2 : p2.T} {gt} {slots keep : List Nat} {ws : List Nat} {nm : List (Option Nat)} {γ2 : Gam} (r : Rel F (lt S.nx) env S γ a W) (hhb : handB S p ds = true) (hx : gaths S.get p ds = some x)
    (hnm : nodupB (somes nm) = true)
    (hd : a'.defers = []) (hsz : a'.tmps.size = F.n) (hp2 : Hp (handF F S γ W p ds gt) (lt (scat p2 x2 0).n) ⟨(scat p2 x2 0).n, (scat p2 x2 0).m⟩ γ2 W')
    (hr2 : RepDs W'.cell? (Frz (handF F S γ W p ds gt) ⟨(scat p2 x2 0).n, (scat p2 x2 0).m⟩ γ2 W') (getM (scat p2 x2 0).m) γ2 (scat p2 x2 0).ds (slots.map fun s => a'.tmps.getD s undef))
    (hheld : Held (handG S γ p ds) (getM (scat p x 0).m) nm p2.cnt γ2 (getM (scat p2 x2 0).m))
    (hsame : Same ws a a') (hk1 : ∀ s ∈ keep, s ∉ ws) (hk2 : ∀ s ∈ keep, (getE env s).isGd = false) :
    ∃ γ3, Rel F (lt (S.nx + (scat p2 x2 0).n)) (zipE slots (rens (rho S.nx (orgss S.get p ds) nm) (scat p2 x2 0).ds) ++ keep.map fun s => (s, getE env s)) ⟨S.nx + (scat p2 x2 0).n, renM (rho S.nx (orgss S.get p ds) nm) (scat p2 x2 0).m ++ (S.rm (somes (orgss S.get p ds) ++ idsVs S.get p ds)).m⟩ γ3 a' W' ∧
      Stp F (lt S.nx) S γ W ⟨S.nx + (scat p2 x2 0).n, renM (rho S.nx (orgss S.get p ds) nm) (scat p2 x2 0).m ++ (S.rm (somes (orgss S.get p ds) ++ idsVs S.get p ds)).m⟩ γ3 W' := by
  have hp := r.hp
  have hthere := gaths_there hx
  have hK := hp2.kept
  simp only [handB, Bool.and_eq_true] at hhb
  have hnd := hhb.1.1
  obtain ⟨og, hog⟩ : ∃ og, og = orgss S.get p ds := ⟨_, rfl⟩
  rw [← hog]
  obtain ⟨ids, hids⟩ : ∃ ids, ids = somes og ++ idsVs S.get p ds := ⟨_, rfl⟩
  rw [← hids]
  obtain ⟨ρ, hρ⟩ : ∃ ρ, ρ = rho S.nx og nm := ⟨_, rfl⟩
  rw [← hρ]
  obtain ⟨S', hS'⟩ : ∃ S' : St, S' = ⟨S.nx + (scat p2 x2 0).n, renM ρ (scat p2 x2 0).m ++ (S.rm ids).m⟩ := ⟨_, rfl⟩
  rw [← hS']
  obtain ⟨S2, hS2⟩ : ∃ S2 : St, S2 = ⟨(scat p2 x2 0).n, (scat p2 x2 0).m⟩ := ⟨_, rfl⟩
  rw [← hS2] at hp2 hr2
  have hn2 := scat_n p2 x2 0
  rw [Nat.zero_add] at hn2
  have hkey : ∀ q ∈ (scat p2 x2 0).m, q.1 < p2.cnt := fun q hq => by
    have := (scat_key p2 x2 0 q.1).1 (List.any_eq_true.2 ⟨q, hq, Nat.beq_refl _⟩)
    omega
  have hex : ∀ i, i < p2.cnt → ∃ q ∈ (scat p2 x2 0).m, q.1 = i := fun i hi => by
    have := scat_keyT p2 x2 (n := 0) (id := i) ⟨by omega, by omega⟩
    obtain ⟨q, h1, h2⟩ := List.any_eq_true.1 this
    exact ⟨q, h1, Nat.eq_of_beq_eq_true h2⟩
  -- the names
  have hold1 : ∀ j id, idAt og j = some id → id < S.nx ∧ some id ∈ og := fun j id h => by
    have h1 := idAt_some h
    have h2 := List.mem_of_getElem? h1
    refine ⟨?_, h2⟩
    cases ho : S.get id with
    | none => exact absurd ho (hthere id (hog ▸ h2))
    | some ob => exact (hp.obsB id ob ho).1
  have hname : ∀ i, (∃ j id, idAt nm i = some j ∧ idAt og j = some id ∧ ρ i = id) ∨ ρ i = S.nx + i := fun i => by
    rw [hρ]
    unfold rho
    cases h1 : idAt nm i with
    | none => exact .inr rfl
    | some j =>
      cases h2 : idAt og j with
      | none => exact .inr (by simp [h2])
      | some id => exact .inl ⟨j, id, rfl, h2, by simp [h2]⟩
  have hinj : ∀ i k, ρ i = ρ k → i = k := fun i k h => by
    rcases hname i with ⟨j, id, h1, h2, h3⟩ | h1
    · rcases hname k with ⟨j', id', k1, k2, k3⟩ | k1
      · rw [h3, k3] at h
        subst h
        have e := somes_once (by rw [hog]; exact hnd) (idAt_some h2) (idAt_some k2)
        subst e
        exact somes_once hnm (idAt_some h1) (idAt_some k1)
      · have := (hold1 j id h2).1
        omega
    · rcases hname k with ⟨j', id', k1, k2, k3⟩ | k1
      · have := (hold1 j' id' k2).1
        omega
      · omega
  obtain ⟨γ3, hγ3⟩ : ∃ γ3, γ3 = backG γ γ2 ρ p2.cnt := ⟨_, rfl⟩
  have hgn : ∀ i, i < p2.cnt → γ3 (ρ i) = γ2 i := fun i hi => by
    rw [hγ3]
    unfold backG
    split
    · rename_i k hk
      have := List.find?_some hk
      rw [hinj k i (Nat.eq_of_beq_eq_true this)]
    · rename_i hk
      have := List.find?_eq_none.1 hk i (List.mem_range.2 hi)
      simp at this
  have hgo : ∀ id, (∀ i, i < p2.cnt → ρ i ≠ id) → γ3 id = γ id := fun id h => by
    rw [hγ3]
    unfold backG
    split
    · rename_i k hk
      have h1 := List.find?_some hk
      have h2 := List.mem_range.1 (List.mem_of_find?_eq_some hk)
      exact absurd (Nat.eq_of_beq_eq_true h1) (h k h2)
    · rfl
  have hnew : ∀ i, i < p2.cnt → S'.get (ρ i) = (S2.get i).map (renOb ρ) := fun i hi => by
    rw [hS', hS2]
    unfold St.get
    rw [getM_app]
    obtain ⟨q, h1, h2⟩ := hex i hi
    rw [(renM_any (ρ := ρ)).2 ⟨q, h1, by rw [h2]⟩]
    exact renM_get (fun q hq e => hinj _ _ e)
  have hold : ∀ id, (∀ i, i < p2.cnt → ρ i ≠ id) → S'.get id = (S.rm ids).get id := fun id h => by
    rw [hS']
    unfold St.get
    rw [getM_app]
    have : (renM ρ (scat p2 x2 0).m).any (fun q => Nat.beq q.1 id) = false := by
      rw [Bool.eq_false_iff]
      intro e
      obtain ⟨q, h1, h2⟩ := (renM_any (ρ := ρ)).1 e
      exact h q.1 (hkey q h1) h2
    rw [this]
  have hdec : ∀ id, (∃ i, i < p2.cnt ∧ ρ i = id) ∨ (∀ i, i < p2.cnt → ρ i ≠ id) := fun id => by
    by_cases h : ∃ i, i < p2.cnt ∧ ρ i = id
    · exact .inl h
    · exact .inr fun i hi e => h ⟨i, hi, e⟩
  have hrm : ∀ id ob, (S.rm ids).get id = some ob → S.get id = some ob ∧ id ∉ ids := fun id ob h => by
    rw [St.rm_get] at h
    split at h
    · cases h
    · rename_i hn
      exact ⟨h, hn⟩
  have hcase : ∀ id ob, S'.get id = some ob → (S.get id = some ob ∧ id ∉ ids ∧ γ3 id = γ id) ∨ (∃ i ob2, i < p2.cnt ∧ ρ i = id ∧ S2.get i = some ob2 ∧ ob = renOb ρ ob2 ∧ γ3 id = γ2 i) := fun id ob h => by
    rcases hdec id with ⟨i, hi, e⟩ | hn
    · subst e
      rw [hnew i hi] at h
      cases ho : S2.get i with
      | none => rw [ho] at h; simp at h
      | some ob2 =>
        rw [ho] at h
        simp only [Option.map_some, Option.some.injEq] at h
        exact .inr ⟨i, ob2, hi, rfl, ho, h.symm, hgn i hi⟩
    · rw [hold id hn] at h
      obtain ⟨h1, h2⟩ := hrm id ob h
      exact .inl ⟨h1, h2, hgo id hn⟩
  have htrk : ∀ b, tracked S' γ3 b → tracked S2 γ2 b ∨ ∃ id ob c, S.get id = some ob ∧ id ∉ ids ∧ (b, c) ∈ γ id := fun b h => by
    obtain ⟨id, ob, c, h1, h2⟩ := h
    rcases hcase id ob h1 with ⟨k1, k2, k3⟩ | ⟨i, ob2, k1, k2, k3, k4, k5⟩
    · exact .inr ⟨id, ob, c, k1, k2, k3 ▸ h2⟩
    · exact .inl ⟨i, ob2, c, k3, k5 ▸ h2⟩
  -- blocks handed over were tracked
  have hT : ∀ b, (handF F S γ W p ds gt).T b → ∃ id ob c, id ∈ ids ∧ S.get id = some ob ∧ (b, c) ∈ γ id := fun b h => by
    obtain ⟨id, c, h1, h2⟩ := h
    cases ho : S.get id with
    | none => exact absurd ho (hthere id h1)
    | some ob => exact ⟨id, ob, c, by rw [hids, hog]; exact List.mem_append_left _ (somes_mem.2 h1), ho, h2⟩
  have hTt : ∀ b, (handF F S γ W p ds gt).T b → tracked S γ b := fun b h => by
    obtain ⟨id, ob, c, _, h2, h3⟩ := hT b h
    exact ⟨id, ob, c, h2, h3⟩
  have hTn : ∀ b, (handF F S γ W p ds gt).T b → ∀ id ob c, S.get id = some ob → id ∉ ids → (b, c) ∈ γ id → False := fun b h id ob c h1 h2 h3 => by
    obtain ⟨id', ob', c', k1, k2, k3⟩ := hT b h
    exact h2 (hp.inj id id' ob ob' b c c' h1 k2 h3 k3 ▸ k1)
  -- an object that came in, and comes back
  have hback : ∀ i ob2 id, i < p2.cnt → ρ i = id → id < S.nx → S2.get i = some ob2 → ∃ ob, S.get id = some ob ∧ like ob (renOb ρ ob2) ∧ hdG γ3 id = hdG γ id := fun i ob2 id hi e hlt ho => by
    subst e
    rcases hname i with ⟨j, id, h1, h2, h3⟩ | h1
    · obtain ⟨k1, ob0, ob1, k2, k3, k4⟩ := hheld i j hi h1
      obtain ⟨obs, ob', l1, l2, l3⟩ := gaths_like hx 0 j id (by rw [← hog]; exact idAt_some h2)
      rw [Nat.zero_add] at l2
      rw [l2] at k2
      simp only [Option.some.injEq] at k2
      subst k2
      have hh : S2.get i = getM (scat p2 x2 0).m i := by rw [hS2]; rfl
      rw [hh, k3] at ho
      simp only [Option.some.injEq] at ho
      subst ho
      refine ⟨obs, h3 ▸ l1, like_trans (like_trans l3 k4) (like_ren ρ _), ?_⟩
      rw [hd_of (hgn i hi), k1]
      refine hd_of ?_
      unfold handG
      rw [← hog, idAt_some h2, h3]
      rfl
    · omega
  have hst : Stp F (lt S.nx) S γ W S' γ3 W' := by
    refine ⟨fun id hid ob ho => ?_, hK.os, hK.tape, hK.output, hK.size, fun b hb hn => hK.block b hb (fun h => hn (hTt b h)), fun b hb => ?_⟩
    · rcases hcase id ob ho with ⟨k1, k2, k3⟩ | ⟨i, ob2, k1, k2, k3, k4, k5⟩
      · exact ⟨ob, k1, like_refl _, hd_of k3⟩
      · rw [k4]
        exact hback i ob2 id k1 k2 hid k3
    · rcases htrk b hb with h | ⟨id, ob, c, h1, _, h2⟩
      · obtain ⟨h1, h2⟩ := hp2.trk b h
        rcases h1 with h1 | h1
        · exact .inl (hTt b h1)
        · exact .inr ⟨h1, h2⟩
      · exact .inl ⟨id, ob, c, h1, h2⟩
  have hfr : ∀ b, Frz (handF F S γ W p ds gt) S2 γ2 W' b → Frz F S' γ3 W' b := fun b hb => by
    obtain ⟨h1, h2, h3⟩ := hb
    have hnt : ¬ tracked S2 γ2 b := h3
    rcases h1 with h1 | h1 | h1
    · obtain ⟨h1, h4⟩ := h1
      refine ⟨h1.1, h2, fun ht => ?_⟩
      rcases htrk b ht with h | ⟨id, ob, c, k1, k2, k3⟩
      · exact hnt h
      · refine h1.2.2 ⟨id, ob, c, ?_, k3⟩
        rw [St.rm_get, if_neg (fun e => k2 (by rw [hids]; exact List.mem_append_right _ e))]
        exact k1
    · have := hp.trk b (hTt b h1)
      refine ⟨.inr this.1, h2, fun ht => ?_⟩
      rcases htrk b ht with h | ⟨id, ob, c, k1, k2, k3⟩
      · exact hnt h
      · exact hTn b h1 id ob c k1 k2 k3
    · refine ⟨.inr (.inr (Nat.le_trans hp.kept.size h1)), h2, fun ht => ?_⟩
      rcases htrk b ht with h | ⟨id, ob, c, k1, k2, k3⟩
      · exact hnt h
      · have := hp.blt k1 k3
        have : W.heap.size ≤ b := h1
        omega
  have hren : ∀ i, btw 0 (0 + p2.cnt) i → γ3 (ρ i) = γ2 i ∧ S'.get (ρ i) = (S2.get i).map (renOb ρ) := fun i hi => by
    unfold btw at hi
    exact ⟨hgn i (by omega), hnew i (by omega)⟩
  have b1 := (scat_bnd p2 x2 0).1
  have hget2 : S2.get = getM (scat p2 x2 0).m := by rw [hS2]; rfl
  have b2 : ∀ id ob, getM (scat p2 x2 0).m id = some ob → bnds (btw 0 (0 + p2.cnt)) ob.dsOf := fun id ob h => bnds_mono (fun i hi => by
    unfold lt at hi
    unfold btw
    omega) (hp2.obsB id ob (by rw [hget2]; exact h)).2
  have k1 : RepDs W'.cell? (Frz F S' γ3 W') S'.get γ3 (rens ρ (scat p2 x2 0).ds) (slots.map fun s => a'.tmps.getD s undef) := RepDs.ren (get := S2.get) hfr hren b1 (by rw [hget2]; exact hr2)
  have hbm : ∀ id, lt S.nx id → lt (S.nx + (scat p2 x2 0).n) id := fun id h => by
    unfold lt at *
    omega
  have hbm2 : ∀ i, btw 0 (0 + p2.cnt) i → lt (S.nx + (scat p2 x2 0).n) (ρ i) := fun i h => by
    unfold btw at h
    unfold lt
    rcases hname i with ⟨j, id, h1, h2, h3⟩ | h1
    · have := (hold1 j id h2).1
      omega
    · omega
  have hp3 : Hp F (lt (S.nx + (scat p2 x2 0).n)) S' γ3 W' := by
    have hblt2 : ∀ i ob g c, S2.get i = some ob → (g, c) ∈ γ2 i → (handF F S γ W p ds gt).T g ∨ W.heap.size ≤ g := fun id ob g c h1 h2 => (hp2.trk g ⟨id, ob, c, h1, h2⟩).1
    refine hst.hp hp hbm (fun id ob ho => ?_) (fun id id' ob ob' g c c' h1 h2 h3 h4 => ?_) (fun id ob ho => ?_) (fun id ob ho => ?_)
    · rcases hcase id ob ho with ⟨h1, h2, h3⟩ | ⟨i, ob2, h1, h2, h3, h4, h5⟩
      · exact hst.ob hp h1 h3 (fun g c hg => hK.block g (hp.blt h1 hg) (fun hTg => hTn g hTg id ob c h1 h2 hg))
      · subst h2 h4
        exact ObRep.ren (B := btw 0 (0 + p2.cnt)) hfr hren (by unfold btw; omega) (b2 i ob2 (by rw [← hget2]; exact h3)) (hp2.obs i ob2 h3)
    · rcases hcase id ob h1 with ⟨q1, q2, q3⟩ | ⟨i, ob2, q1, q2, q3, q4, q5⟩
      · rw [q3] at h3
        rcases hcase id' ob' h2 with ⟨p1, p2', p3⟩ | ⟨i', ob2', p1, p2', p3, p4, p5⟩
        · rw [p3] at h4
          exact hp.inj id id' ob ob' g c c' q1 p1 h3 h4
        · rw [p5] at h4
          rcases hblt2 _ _ _ _ p3 h4 with h | h
          · exact (hTn g h id ob c q1 q2 h3).elim
          · have := hp.blt q1 h3
            omega
      · rw [q5] at h3
        rcases hcase id' ob' h2 with ⟨p1, p2', p3⟩ | ⟨i', ob2', p1, p2', p3, p4, p5⟩
        · rw [p3] at h4
          rcases hblt2 _ _ _ _ q3 h3 with h | h
          · exact (hTn g h id' ob' c' p1 p2' h4).elim
          · have := hp.blt p1 h4
            omega
        · rw [p5] at h4
          have := hp2.inj _ _ _ _ _ _ _ q3 p3 h3 h4
          rw [← q2, ← p2', this]
    · rcases hcase id ob ho with ⟨h1, h2, h3⟩ | ⟨i, ob2, h1, h2, h3, h4, h5⟩
      · rw [h3]
        exact hp.nd id ob h1
      · rw [h5]
        exact hp2.nd i ob2 h3
    · rcases hcase id ob ho with ⟨h1, h2, h3⟩ | ⟨i, ob2, h1, h2, h3, h4, h5⟩
      · exact ⟨hbm id (hp.obsB id ob h1).1, bnds_mono hbm (hp.obsB id ob h1).2⟩
      · refine ⟨h2 ▸ hbm2 i (by unfold btw; omega), ?_⟩
        subst h4
        have hb2 := b2 i ob2 (by rw [← hget2]; exact h3)
        cases ob2 with
        | buf _ _ => trivial
        | opt _ _ => trivial
        | mp _ _ _ _ => trivial
        | bh _ _ _ _ d => exact ⟨ren_bnd hbm2 hb2.1, trivial⟩
        | cells ds2 => exact rens_bnd hbm2 hb2
        | arr c xs hl =>
          cases hl with
          | none => trivial
          | some q =>
            simp only [Ob.dsOf, bnds] at hb2
            simp only [renOb, Ob.dsOf, bnds]
            exact ⟨ren_bnd hbm2 hb2.1, trivial⟩
  have hkeep : ∀ s, SlotRep (lt (S.nx + (scat p2 x2 0).n)) W'.cell? (Frz F S' γ3 W') S'.get γ3 (fun s => a'.tmps.getD s undef) (getE (keep.map fun s => (s, getE env s)) s) (a'.tmps.getD s undef) ∧ (getE (keep.map fun s => (s, getE env s)) s).bnd (lt (S.nx + (scat p2 x2 0).n)) := by
    intro s
    rcases keep_get env keep s with h | ⟨h1, h2⟩
    · rw [h]
      simp only [SlotRep, RepD]
      exact ⟨trivial, trivial⟩
    · rw [h2]
      refine ⟨?_, D.bnd_mono hbm (r.envB s)⟩
      have h3 := hst.slot (r.envB s) (r.slots s)
      have h4 := hsame s (hk1 s h1)
      have h5 := hk2 s h1
      rw [h4]
      cases hd' : getE env s with
      | gd _ _ _ => rw [hd'] at h5; cases h5
      | kn _ _ => rw [hd'] at h5; cases h5
      | _ => rw [hd'] at h3; simpa only [SlotRep] using h3
  have hslots := zip_slot (keep := keep.map fun s => (s, getE env s)) (f := fun s => a'.tmps.getD s undef) k1 (rens_bnd hbm2 b1) (ren_nogd (scat_nogd p2 x2 0)) hkeep
  exact ⟨γ3, ⟨hp3, fun s => (hslots s).1, hd, hsz, fun s => (hslots s).2⟩, hst⟩
  where
  keep_get (env : Env) : ∀ (keep : List Nat) (s : Nat), getE (keep.map fun s => (s, getE env s)) s = .junk ∨ (s ∈ keep ∧ getE (keep.map fun s => (s, getE env s)) s = getE env s)
    | [], s => .inl rfl
    | k :: r, s => by
      rw [List.map_cons, getE_cons]
      split
      · rename_i e
        subst e
        exact .inr ⟨List.mem_cons_self, rfl⟩
      · rcases keep_get env r s with h | ⟨h1, h2⟩
        · exact .inl h
        · exact .inr ⟨List.mem_cons_of_mem _ h1, h2⟩
end
end Go.XD


/- An element that stood apart is put back. -/
namespace Go.XD

section
variable {P : Program} {F : Fm} {B : Nat → Prop} {env : Env} {S : St} {γ : Gam} {a : Act} {W : World}

theorem keys_set {bls : List (List (Nat × Nat))} {k : Nat} {L : List (Nat × Nat)} {q : Nat × Nat} (hk : k < bls.length → bls[k]? = some []) (h1 : ((q :: bls.flatten).map (·.1)).Nodup) (h2 : (L.map (·.1)).Nodup)
    (h3 : ∀ x c1 c2, (x, c1) ∈ L → (x, c2) ∈ q :: bls.flatten → False) : ((q :: (bls.set k L).flatten).map (·.1)).Nodup := by
  by_cases h : k < bls.length
  · have p : (q :: (bls.set k L).flatten).Perm (L ++ (q :: bls.flatten)) := (List.Perm.cons q (flat_set bls k L (hk h))).trans List.perm_middle.symm
    refine (p.map (·.1)).nodup_iff.2 ?_
    rw [List.map_append, List.nodup_append]
    refine ⟨h2, h1, fun x hx y hy e => ?_⟩
    subst e
    obtain ⟨⟨x1, c1⟩, m1, rfl⟩ := List.mem_map.1 hx
    obtain ⟨⟨x2, c2⟩, m2, e2⟩ := List.mem_map.1 hy
    simp only at e2
    subst e2
    exact h3 _ _ _ m1 m2
  · rw [List.set_eq_of_length_le (by omega)]
    exact h1
theorem mem_set {bls : List (List (Nat × Nat))} {k : Nat} {L : List (Nat × Nat)} {q : Nat × Nat} (h : q ∈ (bls.set k L).flatten) : q ∈ L ∨ q ∈ bls.flatten := by
  rw [List.mem_flatten] at h
  obtain ⟨l, h1, h2⟩ := h
  rcases List.mem_or_eq_of_mem_set h1 with h3 | rfl
  · exact .inr (List.mem_flatten.2 ⟨l, h3, h2⟩)
  · exact .inl h2

theorem Hp.pack (hp : Hp F B S γ W) (n : Nat) {id k : Nat} {c : CP} {xs : List c.T} {d : D} {x : c.T} {o : Option Nat} {S' : St} (hob : S.get id = some (.arr c xs (some (k, d)))) (hg : gath S.get c d = some x) (hv : idsV S.get c d = []) (hr : orgs S.get c d = [o]) (hne : o ≠ some id)
    (hS' : ∀ j, S'.get j = if id = j then some (.arr c (xs.set k x) none) else if o = some j then none else S.get j) :
    ∃ γ', Stp F B S γ W S' γ' W ∧ Hp F B S' γ' W := by
  rcases hp.obs id _ hob with ⟨_, _, k3⟩ | ⟨g, cap, us, t, bls, k1, k2, k3, k4, k5, k6, k7⟩
  · cases k3
  have hod : ∀ f, o = some f → ∃ ob, S.get f = some ob := fun f hf => by
    obtain ⟨ob, _, h1, _⟩ := (gaths_like2.go (look := S.get) (p := c)).1 hg 0 0 f (by rw [hr, hf]; rfl)
    exact ⟨ob, h1⟩
  have hxl : xs.length = bls.length := k6.symm
  have hbk : k < bls.length → bls[k]? = some [] := fun h => by
    obtain ⟨v, b, _, j2, j3⟩ := k7 k _ (List.getElem?_eq_getElem (hxl ▸ h))
    rw [j2, (j3.1 rfl).1]
    rfl
  have hbl : ∀ q, q ∈ blk γ o → ∃ f, o = some f ∧ q ∈ γ f := fun q hq => by
    cases o with
    | none => cases hq
    | some f => exact ⟨f, rfl, hq⟩
  obtain ⟨L1, hL1⟩ : ∃ L1, L1 = (g, cap) :: (bls.set k (blk γ o)).flatten := ⟨_, rfl⟩
  have hcase : ∀ j ob, S'.get j = some ob → (j = id ∧ ob = .arr c (xs.set k x) none) ∨ (j ≠ id ∧ o ≠ some j ∧ S.get j = some ob) := fun j ob h => by
    rw [hS'] at h
    split at h
    · rename_i e
      exact .inl ⟨e.symm, (Option.some.inj h).symm⟩
    · rename_i e
      split at h
      · cases h
      · rename_i e2
        exact .inr ⟨Ne.symm e, e2, h⟩
  have gi : updG γ id L1 id = L1 := updG_self _ _ _
  have go : ∀ j, j ≠ id → updG γ id L1 j = γ j := fun j h => updG_ne _ _ h
  have hmem : ∀ q, q ∈ L1 → q ∈ γ id ∨ ∃ f, o = some f ∧ q ∈ γ f := fun q hq => by
    rw [hL1] at hq
    rcases List.mem_cons.1 hq with rfl | hq
    · exact .inl (by rw [k1]; exact List.mem_cons_self)
    · rcases mem_set hq with h | h
      · exact .inr (hbl q h)
      · exact .inl (by rw [k1]; exact List.mem_cons_of_mem _ h)
  have hhd : hdG (updG γ id L1) id = hdG γ id := by unfold hdG; rw [gi, hL1, k1]; rfl
  have hsrc : ∀ j ob q, S'.get j = some ob → q ∈ updG γ id L1 j → ∃ j' ob', S.get j' = some ob' ∧ q ∈ γ j' ∧ (j' = j ∨ (j = id ∧ o = some j')) := fun j ob q h hq => by
    rcases hcase j ob h with ⟨rfl, _⟩ | ⟨e1, e2, h3⟩
    · rw [gi] at hq
      rcases hmem q hq with h | ⟨f, hf, h⟩
      · exact ⟨j, _, hob, h, .inl rfl⟩
      · obtain ⟨ob', h'⟩ := hod f hf
        exact ⟨f, ob', h', h, .inr ⟨rfl, hf⟩⟩
    · exact ⟨j, ob, h3, go j e1 ▸ hq, .inl rfl⟩
  refine ⟨updG γ id L1, hp.re (fun _ h => h) S' (updG γ id L1) (fun j hj ob h => ?_) (fun b hb => ?_) (fun hst j ob h => ?_) (fun j j' ob ob' q c1 c2 h h' e e' => ?_) (fun j ob h => ?_) (fun j ob h => ?_)⟩
  · rcases hcase j ob h with ⟨rfl, rfl⟩ | ⟨e1, e2, h3⟩
    · exact ⟨_, hob, by simp [like], hhd⟩
    · exact ⟨ob, h3, like_refl _, hd_of (go j e1)⟩
  · obtain ⟨j, ob, cc, h1, h2⟩ := hb
    obtain ⟨j', ob', h3, h4, _⟩ := hsrc j ob _ h1 h2
    exact ⟨j', ob', cc, h3, h4⟩
  · rcases hcase j ob h with ⟨rfl, rfl⟩ | ⟨e1, e2, h3⟩
    · refine .inr ⟨g, cap, us, t, bls.set k (blk γ o), by rw [gi, hL1], k2, by simpa using k3, k4, by simpa using k5, by simpa using k6, fun i y hy => ?_⟩
      have hil : i < xs.length := by
        have := (List.getElem?_eq_some_iff.1 hy).1
        simpa using this
      obtain ⟨v, b, j1, j2, j3⟩ := k7 i _ (List.getElem?_eq_getElem hil)
      by_cases hi : i = k
      · subst hi
        rw [List.getElem?_set, if_pos rfl, if_pos hil] at hy
        simp only [Option.some.injEq] at hy
        subst hy
        refine ⟨v, [blk γ o], j1, by simp [show i < bls.length by omega], ?_⟩
        have := gath_rep (G' := Frz F S' (updG γ j L1) W) hp (fun b hb => hst.frz hb) hg (j3.1 rfl).2 (fun id hid => by rw [hv] at hid; cases hid)
        rw [hr] at this
        exact this
      · rw [List.getElem?_set, if_neg (Ne.symm hi), List.getElem?_eq_getElem hil] at hy
        simp only [Option.some.injEq] at hy
        subst hy
        exact ⟨v, b, j1, by rw [List.getElem?_set, if_neg (Ne.symm hi)]; exact j2, RepQ.keep (fun a ha => rfl) (fun b hb => hst.frz hb) (fun _ _ _ _ => rfl) (j3.2 hi)⟩
    · exact hst.ob hp h3 (go j e1) (fun _ _ _ => rfl)
  · obtain ⟨i, oi, a1, a2, a3⟩ := hsrc j ob _ h e
    obtain ⟨i', oi', b1, b2, b3⟩ := hsrc j' ob' _ h' e'
    have hii := hp.inj i i' oi oi' q c1 c2 a1 b1 a2 b2
    subst hii
    rcases a3 with rfl | ⟨rfl, a3⟩ <;> rcases b3 with b3 | ⟨b3, b4⟩
    · exact b3
    · rcases hcase i ob h with ⟨e1, _⟩ | ⟨_, e2, _⟩
      · exact (hne (e1 ▸ b4)).elim
      · exact (e2 b4).elim
    · subst b3
      rcases hcase i ob' h' with ⟨e1, _⟩ | ⟨_, e2, _⟩
      · exact (hne (e1 ▸ a3)).elim
      · exact (e2 a3).elim
    · exact b3.symm
  · rcases hcase j ob h with ⟨rfl, rfl⟩ | ⟨e1, e2, h3⟩
    · rw [gi, hL1]
      have hnd := hp.nd j _ hob
      rw [k1] at hnd
      refine keys_set hbk hnd ?_ (fun y c1 c2 m1 m2 => ?_)
      · cases o with
        | none => exact List.nodup_nil
        | some f =>
          obtain ⟨ob', h'⟩ := hod f rfl
          exact hp.nd f ob' h'
      · obtain ⟨f, hf, m3⟩ := hbl _ m1
        obtain ⟨ob', h'⟩ := hod f hf
        exact hne (hp.inj f j ob' _ y c1 c2 h' hob m3 (k1 ▸ m2) ▸ hf)
    · rw [go j e1]; exact hp.nd j ob h3
  · rcases hcase j ob h with ⟨rfl, rfl⟩ | ⟨e1, e2, h3⟩
    · exact ⟨(hp.obsB j _ hob).1, trivial⟩
    · exact hp.obsB j ob h3

/-- An element's own slice is frozen, and the element is whole again. -/
theorem Hp.packH (hp : Hp F B S γ W) {id i off f : Nat} {e e2 : Ty} {xs : List e.T} {ys : List e2.T} {y : e.chain.T} {S' : St} (hob : S.get id = some (.bh e xs i off (.sf f))) (hf : S.get f = some (.buf e2 ys)) (hne : f ≠ id) (hy : setC e.chain (e.toChain (xs.getD i e.dflt)) off [.fz (.lst e2) ys] = some y)
    (hS' : ∀ j, S'.get j = if id = j then some (.buf e (xs.set i (unChain e y))) else if f = j then none else S.get j) :
    Stp F B S γ W S' γ W ∧ Hp F B S' γ W := by
  have hcase : ∀ j ob, S'.get j = some ob → (j = id ∧ ob = .buf e (xs.set i (unChain e y))) ∨ (j ≠ id ∧ f ≠ j ∧ S.get j = some ob) := fun j ob h => by
    rw [hS'] at h
    split at h
    · rename_i e
      exact .inl ⟨e.symm, (Option.some.inj h).symm⟩
    · rename_i e
      split at h
      · cases h
      · rename_i e2
        exact .inr ⟨Ne.symm e, e2, h⟩
  have hsrc : ∀ j ob, S'.get j = some ob → ∃ ob0, S.get j = some ob0 := fun j ob h => by
    rcases hcase j ob h with ⟨rfl, _⟩ | ⟨_, _, h⟩
    · exact ⟨_, hob⟩
    · exact ⟨_, h⟩
  obtain ⟨g, c, vs, t, v, u, k1, k2, k3, k4, k5, k6, k7, k8, k9, k10⟩ := hp.obs id _ hob
  refine hp.re (fun _ h => h) S' γ (fun j hj ob h => ?_) (fun b hb => ?_) (fun hst j ob h => ?_) (fun j j' ob ob' q c1 c2 h h' e e' => ?_) (fun j ob h => ?_) (fun j ob h => ?_)
  · rcases hcase j ob h with ⟨rfl, rfl⟩ | ⟨e1, e2, h3⟩
    · exact ⟨_, hob, ⟨rfl, by simp⟩, rfl⟩
    · exact ⟨ob, h3, like_refl _, rfl⟩
  · obtain ⟨j, ob, cc, h1, h2⟩ := hb
    obtain ⟨ob', h3⟩ := hsrc j ob h1
    exact ⟨j, ob', cc, h3, h2⟩
  · rcases hcase j ob h with ⟨rfl, rfl⟩ | ⟨e1, e2, h3⟩
    · have hfz : ∀ g c, (g, c) ∈ γ f → Frz F S' γ W g := fun g c hg => by
        have ht := hp.trk g ⟨f, _, c, hf, hg⟩
        refine ⟨.inr ht.1, ht.2, fun hT => ?_⟩
        obtain ⟨j', ob', c', h1, h2⟩ := hT
        obtain ⟨ob0, h3⟩ := hsrc j' ob' h1
        have := hp.inj f j' _ ob0 g c c' hf h3 hg h2
        subst this
        rcases hcase f ob' h1 with ⟨e, _⟩ | ⟨_, e, _⟩
        · exact hne e
        · exact e rfl
      have hv : RepV W.cell? (Frz F S' γ W) (.lst e2) ys v := by
        have hc : conv S.get (.lst e2) (.sf f) = some ys := by simp [conv, hf, castT]
        refine conv_rep (G' := Frz F S' γ W) (fun _ _ h => h) hp (fun b hb => hst.frz hb) hc k9 (fun i hi hne g c hg => ?_)
        simp only [idsT, List.mem_singleton] at hi
        subst hi
        exact hfz g c hg
      refine .inr ⟨g, c, vs, t, k1, k2, by simpa using k3, k4, by simpa using k5, fun k x hx => ?_⟩
      have hkl : k < xs.length := by
        have := (List.getElem?_eq_some_iff.1 hx).1
        simpa using this
      by_cases hk : k = i
      · subst hk
        rw [List.getElem?_set, if_pos rfl, if_pos hkl] at hx
        simp only [Option.some.injEq] at hx
        subst hx
        have r0 := (hst.repC (k10 k _ (getD_of (d := e.dflt) hkl))).toChain
        obtain ⟨r1, _⟩ := setC_rep (get := S'.get) (γ := γ) (vs := [v]) hy r0 ⟨v, [], rfl, by simp only [RepD]; exact hv, rfl⟩
        refine unChain_rep (r1.congr (fun q hq => ?_))
        simp only [List.length_cons, List.length_nil, Nat.zero_add]
        by_cases hq : q = off
        · subst hq
          rw [if_pos ⟨Nat.le_refl _, by omega⟩]
          simp [k8]
        · rw [if_neg (by omega), if_neg (by omega)]
      · rw [List.getElem?_set, if_neg (Ne.symm hk)] at hx
        refine (hst.repC (k10 k x hx)).congr (fun q hq => ?_)
        simp only
        rw [if_neg]
        intro h9
        rcases Nat.lt_or_gt_of_ne hk with h8 | h8
        · have := Nat.mul_le_mul_right e.cells (show k + 1 ≤ i from h8)
          rw [Nat.add_mul, Nat.one_mul] at this
          omega
        · have := Nat.mul_le_mul_right e.cells (show i + 1 ≤ k from h8)
          rw [Nat.add_mul, Nat.one_mul] at this
          omega
    · exact hst.ob hp h3 rfl (fun _ _ _ => rfl)
  · obtain ⟨o1, h1⟩ := hsrc j ob h
    obtain ⟨o2, h2⟩ := hsrc j' ob' h'
    exact hp.inj j j' o1 o2 q c1 c2 h1 h2 e e'
  · obtain ⟨o1, h1⟩ := hsrc j ob h
    exact hp.nd j o1 h1
  · rcases hcase j ob h with ⟨rfl, rfl⟩ | ⟨e1, e2, h3⟩
    · exact ⟨(hp.obsB j _ hob).1, trivial⟩
    · exact hp.obsB j ob h3

theorem Rel.stl1 (r : Rel F B env S γ a W) (id : Nat) : ∃ γ', Stp F B S γ W (stl1 S id) γ' W ∧ Rel F B env (stl1 S id) γ' a W := by
  have same : ∃ γ', Stp F B S γ W S γ' W ∧ Rel F B env S γ' a W := ⟨γ, Stp.refl _ _ _ _ _, r⟩
  unfold Go.XD.stl1
  split
  · rename_i c xs k d hob
    split
    · rename_i x hg hv hr
      obtain ⟨γ', h1, h2⟩ := r.hp.pack 0 (S' := ⟨S.nx, (id, some (.arr c (xs.set k x) none)) :: S.m⟩) hob hg hv hr (by simp) (fun j => by
        rw [get_cons]
        simp
        rfl)
      exact ⟨γ', h1, h1.rel r (fun _ h => h) h2⟩
    · rename_i x f hg hv hr
      split
      · rename_i hne
        have hne' : f ≠ id := Nat.ne_of_beq_eq_false hne
        obtain ⟨γ', h1, h2⟩ := r.hp.pack 0 (S' := ⟨S.nx, (id, some (.arr c (xs.set k x) none)) :: (f, none) :: S.m⟩) hob hg hv hr (by simpa using hne') (fun j => by
          rw [get_cons]
          split
          · rfl
          · unfold St.get
            rw [getM_cons]
            simp only [Option.some.injEq])
        exact ⟨γ', h1, h1.rel r (fun _ h => h) h2⟩
      · exact same
    · exact same
  · rename_i e xs i off f hob
    split
    · rename_i e2 ys hf hne
      split
      · rename_i y hy
        obtain ⟨h1, h2⟩ := r.hp.packH (S' := ⟨S.nx, (id, some (.buf e (xs.set i (unChain e y)))) :: (f, none) :: S.m⟩) hob hf (Nat.ne_of_beq_eq_false hne) hy (fun j => by
          rw [get_cons]
          split
          · rfl
          · unfold St.get
            rw [getM_cons])
        exact ⟨γ, h1, h1.rel r (fun _ h => h) h2⟩
      · exact same
    · exact same
  · exact same
theorem stl1_nx (S : St) (id : Nat) : (stl1 S id).nx = S.nx := by
  unfold Go.XD.stl1
  split
  · split
    · rfl
    · split <;> rfl
    · rfl
  · split
    · split <;> rfl
    · rfl
  · rfl
theorem Rel.stls : ∀ {ids : List Nat} {S : St} {γ : Gam}, Rel F B env S γ a W → ∃ γ', Stp F B S γ W (stls S ids) γ' W ∧ Rel F B env (stls S ids) γ' a W ∧ (stls S ids).nx = S.nx
  | [], S, γ, r => ⟨γ, Stp.refl _ _ _ _ _, r, rfl⟩
  | id :: ids, S, γ, r => by
    obtain ⟨γ1, h1, h2⟩ := r.stl1 id
    obtain ⟨γ2, h3, h4, h5⟩ := Rel.stls (ids := ids) h2
    exact ⟨γ2, h1.trans h3, h4, h5.trans (stl1_nx _ _)⟩
theorem Rel.stl (r : Rel F B env S γ a W) (cfg : Cfg) (id : Nat) : ∃ γ', Stp F B S γ W (stl cfg id env S) γ' W ∧ Rel F B env (stl cfg id env S) γ' a W ∧ (stl cfg id env S).nx = S.nx := by
  unfold Go.XD.stl
  split
  · exact ⟨γ, Stp.refl _ _ _ _ _, r, rfl⟩
  · exact r.stls
end
end Go.XD


/- Pieces; code. -/
namespace Go.XD

section
variable {P : Program} {F : Fm} {α : Type}

theorem kont_ok {env : Env} {S : St} {γ : Gam} {a a' : Act} {W W' : World} {p : CP} {ds : List D} {x : p.T} {gt : ∀ b, (Frz F (S.rm (idsVs S.get p ds)) γ W b ∧ ¬ ∃ id c, some id ∈ orgss S.get p ds ∧ (b, c) ∈ γ id) → b < W.heap.size ∧ ¬ ∃ id c, some id ∈ orgss S.get p ds ∧ (b, c) ∈ γ id} {keep : List Nat} {ws : List Nat} {K : Ex → Env → St → Option α} {r : α} {e : Exit}
    (rel : Rel F (lt S.nx) env S γ a W) (hhb : handB S p ds = true) (hx : gaths S.get p ds = some x) (hsame : Same ws a a') (hk1 : ∀ s ∈ keep, s ∉ ws) (hk2 : ∀ s ∈ keep, (getE env s).isGd = false) :
    ∀ {outs : List Out} {y : outT outs}, (∀ o ∈ outs, nodupB (somes o.nm) = true) → OutOK (handF F S γ W p ds gt) (handG S γ p ds) (getM (scat p x 0).m) outs y e a' W' → kont (keep.map fun s => (s, getE env s)) (S.rm (somes (orgss S.get p ds) ++ idsVs S.get p ds)) (orgss S.get p ds) K outs y = some r → Post F ws a S γ W K r e a' W'
  | [], y, _, h, _ => nomatch y
  | o :: q, .inl x2, hn, h, hk => by
    simp only [OutOK] at h
    obtain ⟨h1, h2, h3, γ2, h4, h5, h6⟩ := h
    obtain ⟨γ3, hr, hst⟩ := back_ok (slots := o.slots) rel hhb hx (hn o List.mem_cons_self) h2 h3 h4 h5 h6 hsame hk1 hk2
    simp only [kont] at hk
    exact ⟨o.ex, _, _, γ3, h1, ⟨hsame, Nat.le_add_right _ _, hst⟩, hr, hk⟩
  | o :: q, .inr y, hn, h, hk => by
    simp only [OutOK] at h
    simp only [kont] at hk
    exact kont_ok rel hhb hx hsame hk1 hk2 (fun o' h' => hn o' (List.mem_cons_of_mem _ h')) h hk

theorem piece_ok {c : Code} {L : LCtr} (hL : PieceOK P F.n c L) {env : Env} {S : St} {γ : Gam} {a : Act} {W : World} {K : Ex → Env → St → Option α} {r : α}
    (rel : Rel F (lt S.nx) env S γ a W) (h : piece F.n L (writes c) env S K = some r) : c.wp P (Post F (writes c) a S γ W K r) a W := by
  unfold piece at h
  simp only at h
  split at h
  · rename_i x hb hx
    simp only [Bool.and_eq_true] at hb
    obtain ⟨⟨⟨hb1, hb2⟩, hb3⟩, hb4⟩ := hb
    split at h
    case h_2 => cases h
    rename_i hb5
    obtain ⟨hb6, h⟩ := ckL_some h
    obtain ⟨y, hy, hk⟩ := Option.bind_eq_some_iff.1 h
    have gt : ∀ b, (Frz F (S.rm (idsVs S.get L.ins (L.slots.map (getE env)))) γ W b ∧ ¬ ∃ id c, some id ∈ orgss S.get L.ins (L.slots.map (getE env)) ∧ (b, c) ∈ γ id) → b < W.heap.size ∧ ¬ ∃ id c, some id ∈ orgss S.get L.ins (L.slots.map (getE env)) ∧ (b, c) ∈ γ id := fun b h => ⟨h.1.2.1, h.2⟩
    have h1 := (hand_ok (gt := gt) rel hb1 hx).1.app' (als_ok rel hx hb5 hb6)
    refine wp_mono (hL x y hy (handF F S γ W L.ins (L.slots.map (getE env)) gt) _ a W rfl h1) (fun e a' W' hq => ?_)
    refine kont_ok rel hb1 hx hq.2 (fun s hs => ?_) (fun s hs => ?_) (fun o ho => List.all_eq_true.1 hb4 o ho) hq.1 hk
    · have := (List.all_eq_true.1 hb2) s hs
      rw [Bool.not_eq_true', Bool.eq_false_iff] at this
      exact fun e => this (any_beq.2 e)
    · have := (List.all_eq_true.1 hb3) s hs
      simpa using this
  · cases h

theorem exOf_normal {e : Exit} (h : exOf e = some .normal) : e = .normal := by cases e <;> simp [exOf] at h; rfl
theorem exOf_exit {e : Exit} {id : Nat} (h : exOf e = some (.exit id)) : e = .exit id := by cases e <;> simp [exOf] at h; rw [h]
theorem exOf_ret {e : Exit} (h : exOf e = some .ret) : e = .ret := by cases e <;> simp [exOf] at h; rfl

/-- A draw is no step of the heap. -/
theorem Rel.drawn {B : Nat → Prop} {env : Env} {S : St} {γ : Gam} {a : Act} {W : World} (r : Rel F B env S γ a W) (n : Nat) : Rel F B env S γ a { W with drawn := n } := by
  have h : Stp F B S γ W S γ { W with drawn := n } := ⟨fun id _ ob h => ⟨ob, h, like_refl _, rfl⟩, rfl, rfl, rfl, Nat.le_refl _, fun _ _ _ => rfl, fun b h => .inl h⟩
  exact h.rel r (fun _ h => h) (h.hp r.hp (fun _ h => h) (fun id ob ho => h.ob r.hp ho rfl (fun _ _ _ => rfl)) r.hp.inj r.hp.nd r.hp.obsB)

/-- What is told of a stretch of the run. -/
abbrev Did (F : Fm) (ws : List Nat) (a : Act) (S : St) (γ : Gam) (W : World) (a' : Act) (S' : St) (γ' : Gam) (W' : World) : Prop := Same ws a a' ∧ S.nx ≤ S'.nx ∧ Stp F (lt S.nx) S γ W S' γ' W'
theorem Did.mono {ws ws' : List Nat} {a a' : Act} {S S' : St} {γ γ' : Gam} {W W' : World} (h : Did F ws a S γ W a' S' γ' W') (k : ∀ s, s ∈ ws → s ∈ ws') : Did F ws' a S γ W a' S' γ' W' := ⟨h.1.mono k, h.2⟩
theorem Did.trans {ws : List Nat} {a a' a2 : Act} {S S' S2 : St} {γ γ' γ2 : Gam} {W W' W2 : World} (h : Did F ws a S γ W a' S' γ' W') (k : Did F ws a' S' γ' W' a2 S2 γ2 W2) : Did F ws a S γ W a2 S2 γ2 W2 :=
  ⟨h.1.trans k.1, Nat.le_trans h.2.1 k.2.1, h.2.2.trans (k.2.2.weak fun id hid => Nat.lt_of_lt_of_le hid h.2.1)⟩

theorem den_ok {cfg : Cfg} (hC : CfgOK P cfg) :
    ∀ (c : Code) {env : Env} {S : St} {γ : Gam} {a : Act} {W : World} {K : Ex → Env → St → Option α} {r : α}, PiecesOK P F.n cfg c → Rel F (lt S.nx) env S γ a W → den cfg F.n c env S K = some r → c.wp P (Post F (writes c) a S γ W K r) a W
  | .skip, env, S, γ, a, W, K, r, hc, rel, h => wp_skip ⟨.normal, env, S, γ, rfl, ⟨Same.refl _ _, Nat.le_refl _, Stp.refl F _ S γ W⟩, rel, h⟩
  | .exit id, env, S, γ, a, W, K, r, hc, rel, h => wp_exit ⟨.exit id, env, S, γ, rfl, ⟨Same.refl _ _, Nat.le_refl _, Stp.refl F _ S γ W⟩, rel, h⟩
  | .ret, env, S, γ, a, W, K, r, hc, rel, h => wp_ret ⟨.ret, env, S, γ, rfl, ⟨Same.refl _ _, Nat.le_refl _, Stp.refl F _ S γ W⟩, rel, h⟩
  | .region id ops draw, env, S, γ, a, W, K, r, hc, rel, h => by
    have put : ∀ {S0 : St} {γ0 : Gam}, Stp F (lt S.nx) S γ W S0 γ0 W → ∀ env' S' γ' a' W', S.nx ≤ S'.nx → Same (writes (.region id ops draw)) a a' → Stp F (lt S.nx) S0 γ0 W S' γ' W' → Rel F (lt S'.nx) env' S' γ' a' W' → K .normal env' (stl cfg id env' S') = some r → Post F (writes (.region id ops draw)) a S γ W K r .normal a' W' := fun g env' S' γ' a' W' h0 h1 hst h2 h3 => by
      obtain ⟨γ2, k1, k2, k3⟩ := h2.stl cfg id
      refine ⟨.normal, env', _, γ2, rfl, ⟨h1, k3 ▸ h0, (g.trans hst).trans (k1.weak fun id hid => Nat.lt_of_lt_of_le hid h0)⟩, ?_, h3⟩
      rw [k3]
      exact k2
    simp only [den] at h
    split at h
    · cases draw with
      | false => exact wp_region (region_ok hC rel h (fun env' S' γ' a' W' h0 h1 hst h2 h3 => put (Stp.refl _ _ _ _ _) env' S' γ' a' W' h0 h1 hst h2 h3))
      | true =>
        refine wp_region_draw ?_
        exact draw_ok hC (rel.drawn _) h (fun c a w hq => by obtain ⟨_, _, _, _, hq, _⟩ := hq; cases hq) (fun env' S' γ' a' W' h0 h1 hst h2 h3 => put (Stp.refl _ _ _ _ _) env' S' γ' a' W' h0 h1 ⟨hst.hold, hst.os, hst.tape, hst.output, hst.size, hst.block, hst.trk⟩ h2 h3)
    · rename_i i ids _
      obtain ⟨f1, f2⟩ := rel.fro (subIds S (i :: ids))
      obtain ⟨g1, g3⟩ := f1.fro (i :: ids)
      have g2 := f2.trans g3
      cases draw with
      | false => exact wp_region (region_ok hC (S := froS (froS S (subIds S (i :: ids))) (i :: ids)) g1 h (fun env' S' γ' a' W' h0 h1 hst h2 h3 => put g2 env' S' γ' a' W' h0 h1 hst h2 h3))
      | true =>
        refine wp_region_draw ?_
        exact draw_ok hC (S := froS (froS S (subIds S (i :: ids))) (i :: ids)) (g1.drawn _) h (fun c a w hq => by obtain ⟨_, _, _, _, hq, _⟩ := hq; cases hq) (fun env' S' γ' a' W' h0 h1 hst h2 h3 => put g2 env' S' γ' a' W' h0 h1 ⟨hst.hold, hst.os, hst.tape, hst.output, hst.size, hst.block, hst.trk⟩ h2 h3)
  | .seq x y, env, S, γ, a, W, K, r, hc, rel, h => by
    simp only [den] at h
    simp only [PiecesOK] at hc
    refine wp_seq (wp_mono (den_ok hC x hc.1 rel h) (fun e a' W' hq => ?_))
    obtain ⟨ex, env', S', γ', h1, h2, h3, h4⟩ := hq
    have hm : ∀ s, s ∈ writes x → s ∈ writes (.seq x y) := fun s hs => by simp only [writes, List.mem_append]; exact .inl hs
    have hm2 : ∀ s, s ∈ writes y → s ∈ writes (.seq x y) := fun s hs => by simp only [writes, List.mem_append]; exact .inr hs
    cases ex with
    | normal =>
      have := exOf_normal h1
      subst this
      simp only [Exit.then]
      refine wp_mono (den_ok hC y hc.2 h3 h4) (fun e2 a2 W2 hq2 => ?_)
      obtain ⟨ex2, env2, S2, γ2, k1, k2, k3, k4⟩ := hq2
      exact ⟨ex2, env2, S2, γ2, k1, Did.trans (Did.mono h2 hm) (Did.mono k2 hm2), k3, k4⟩
    | exit id =>
      have := exOf_exit h1
      subst this
      exact ⟨_, env', S', γ', rfl, Did.mono h2 hm, h3, h4⟩
    | ret =>
      have := exOf_ret h1
      subst this
      exact ⟨_, env', S', γ', rfl, Did.mono h2 hm, h3, h4⟩
  | .cond o x y, env, S, γ, a, W, K, r, hc, rel, h => by
    cases o with
    | tmp s =>
      simp only [den] at h
      simp only [PiecesOK] at hc
      cases hl : cfg.lp (ckey s x y) with
      | some L =>
        rw [hl] at h
        exact piece_ok (c := .cond (.tmp s) x y) (hc.2.2 s rfl L hl) rel h
      | none =>
        rw [hl] at h
        simp only at h
        split at h
        · rename_i b hb
          have k := rel.slots s
          rw [hb] at k
          simp only [SlotRep] at k
          have hv : a.eval (.tmp s) = .bool b := of_bool k
          refine wp_cond hv ?_
          cases b with
          | true =>
            refine wp_mono (den_ok hC x hc.1 rel h) (fun e2 a2 W2 hq2 => ?_)
            obtain ⟨ex2, env2, S2, γ2, k1, k2, k3, k4⟩ := hq2
            exact ⟨ex2, env2, S2, γ2, k1, Did.mono k2 (fun s hs => by simp only [writes, List.mem_append]; exact .inl hs), k3, k4⟩
          | false =>
            refine wp_mono (den_ok hC y hc.2.1 rel h) (fun e2 a2 W2 hq2 => ?_)
            obtain ⟨ex2, env2, S2, γ2, k1, k2, k3, k4⟩ := hq2
            exact ⟨ex2, env2, S2, γ2, k1, Did.mono k2 (fun s hs => by simp only [writes, List.mem_append]; exact .inr hs), k3, k4⟩
        · rename_i z hb
          have k := rel.slots s
          rw [hb] at k
          simp only [SlotRep, RepD] at k
          obtain ⟨b, hv, hz⟩ := k
          have hv : a.eval (.tmp s) = .bool b := hv
          have hA := fun (hk : den cfg F.n x env S K = some r) => wp_mono (den_ok hC x hc.1 rel hk) (fun e2 a2 W2 hq2 => (by
            obtain ⟨ex2, env2, S2, γ2, k1, k2, k3, k4⟩ := hq2
            exact ⟨ex2, env2, S2, γ2, k1, Did.mono k2 (fun s hs => by simp only [writes, List.mem_append]; exact .inl hs), k3, k4⟩ : Post F (writes (.cond (.tmp s) x y)) a S γ W K r e2 a2 W2))
          have hB := fun (hk : den cfg F.n y env S K = some r) => wp_mono (den_ok hC y hc.2.1 rel hk) (fun e2 a2 W2 hq2 => (by
            obtain ⟨ex2, env2, S2, γ2, k1, k2, k3, k4⟩ := hq2
            exact ⟨ex2, env2, S2, γ2, k1, Did.mono k2 (fun s hs => by simp only [writes, List.mem_append]; exact .inr hs), k3, k4⟩ : Post F (writes (.cond (.tmp s) x y)) a S γ W K r e2 a2 W2))
          refine wp_cond hv ?_
          cases z with
          | true =>
            simp only [cond, agree] at h
            split at h
            · rename_i heq
              cases b with
              | true => exact hA h
              | false => exact hB (heq ▸ h)
            · cases h
          | false =>
            cases b with
            | true => cases hz rfl
            | false => exact hB h
        · cases h
    | const v =>
      simp only [den] at h
      simp only [PiecesOK] at hc
      split at h
      · rename_i b hb
        have hv : a.eval (.const v) = .bool b := by
          have := ofConst_rep (cell := W.cell?) (G := Frz F S γ W) (get := S.get) (γ := γ) v
          rw [hb] at this
          exact of_bool this
        refine wp_cond hv ?_
        cases b with
        | true =>
          refine wp_mono (den_ok hC x hc.1 rel h) (fun e2 a2 W2 hq2 => ?_)
          obtain ⟨ex2, env2, S2, γ2, k1, k2, k3, k4⟩ := hq2
          exact ⟨ex2, env2, S2, γ2, k1, Did.mono k2 (fun s hs => by simp only [writes, List.mem_append]; exact .inl hs), k3, k4⟩
        | false =>
          refine wp_mono (den_ok hC y hc.2.1 rel h) (fun e2 a2 W2 hq2 => ?_)
          obtain ⟨ex2, env2, S2, γ2, k1, k2, k3, k4⟩ := hq2
          exact ⟨ex2, env2, S2, γ2, k1, Did.mono k2 (fun s hs => by simp only [writes, List.mem_append]; exact .inr hs), k3, k4⟩
      · cases h
    | global g => simp [den] at h
    | func f => simp [den] at h
  | .block id x, env, S, γ, a, W, K, r, hc, rel, h => by
    simp only [den] at h
    simp only [PiecesOK] at hc
    refine wp_block (wp_mono (den_ok hC x hc rel h) (fun e a' W' hq => ?_))
    obtain ⟨ex, env', S', γ', h1, h2, h3, h4⟩ := hq
    cases ex with
    | normal =>
      have := exOf_normal h1
      subst this
      exact ⟨_, env', S', γ', rfl, h2, h3, h4⟩
    | exit i =>
      have := exOf_exit h1
      subst this
      simp only [Exit.inBlock]
      simp only at h4
      split at h4
      · rename_i e
        rw [if_pos (Nat.eq_of_beq_eq_true e)]
        exact ⟨_, env', S', γ', rfl, h2, h3, h4⟩
      · rename_i e
        rw [if_neg (Nat.ne_of_beq_eq_false e)]
        exact ⟨_, env', S', γ', rfl, h2, h3, h4⟩
    | ret =>
      have := exOf_ret h1
      subst this
      exact ⟨_, env', S', γ', rfl, h2, h3, h4⟩
  | .loop x, env, S, γ, a, W, K, r, hc, rel, h => by
    simp only [den] at h
    simp only [PiecesOK] at hc
    cases hl : cfg.lp (2 * firstReg x) with
    | some L =>
      rw [hl] at h
      exact piece_ok (c := .loop x) (hc L hl) rel h
    | none => rw [hl] at h; simp at h
  | .goto _, _, _, _, _, _, _, _, _, _, h => by simp [den] at h
  | .label _, env, S, γ, a, W, K, r, hc, rel, h => by
    simp only [den] at h
    exact wp_label ⟨.normal, env, S, γ, rfl, ⟨Same.refl _ _, Nat.le_refl _, Stp.refl F _ S γ W⟩, rel, h⟩
  | .scope x, env, S, γ, a, W, K, r, hc, rel, h => by
    simp only [den] at h
    simp only [PiecesOK] at hc
    refine wp_scope_straight (wp_mono (den_ok hC x hc rel h) (fun e a' W' hq => ?_))
    obtain ⟨ex, env', S', γ', h1, h2, h3, h4⟩ := hq
    have hh : Post F (writes (.scope x)) a S γ W K r e a' W' := ⟨ex, env', S', γ', h1, h2, h3, h4⟩
    cases e with
    | goto l => simp [exOf] at h1
    | _ => exact hh
  | .rangeFunc _ _ _ _, _, _, _, _, _, _, _, _, _, h => by simp [den] at h
end
end Go.XD


/- Loops; functions. -/
namespace Go.XD

section
variable {P : Program} {F : Fm}

theorem ObRep.mono {W : World} {G G' : Nat → Prop} {get : Nat → Option Ob} {γ : Gam} (hG : ∀ b, G b → G' b) {id : Nat} {ob : Ob} (h : ObRep W G get γ id ob) : ObRep W G' get γ id ob := by
  cases ob with
  | cells ds =>
    obtain ⟨g, c, vs, t, h1, h2, h3⟩ := h
    exact ⟨g, c, vs, t, h1, h2, RepDs.mono (B := fun _ => True) (fun _ _ => rfl) hG (fun id _ ob' h => ⟨ob', h, like_refl _, rfl⟩) (allB ds) h3⟩
  | buf e xs =>
    rcases h with h | ⟨g, c, vs, t, h1, h2, h3, h4, h5, h6⟩
    · exact .inl h
    · exact .inr ⟨g, c, vs, t, h1, h2, h3, h4, h5, fun i x hx => (h6 i x hx).mono (fun _ _ => rfl) hG⟩
  | opt c x =>
    obtain ⟨v, r⟩ := h
    exact ⟨v, r.mono hG⟩
  | mp k e es n =>
    obtain ⟨v, r⟩ := h
    exact ⟨v, r.mono hG⟩
  | bh e xs i off d =>
    obtain ⟨g, c, vs, t, v, u, k1, k2, k3, k4, k5, k6, k7, k8, k9, k10⟩ := h
    exact ⟨g, c, vs, t, v, u, k1, k2, k3, k4, k5, k6, k7, k8, RepD.mono (B := fun _ => True) (fun _ _ => rfl) hG (fun id _ ob' h => ⟨ob', h, like_refl _, rfl⟩) (allD d) k9, fun i x hx => (k10 i x hx).mono (fun _ _ => rfl) hG⟩
  | arr c xs hl =>
    rcases h with h | ⟨g, cap, us, t, bls, k1, k2, k3, k4, k5, k6, k7⟩
    · exact .inl h
    · refine .inr ⟨g, cap, us, t, bls, k1, k2, k3, k4, k5, k6, fun i x hx => ?_⟩
      obtain ⟨v, b, q1, q2, q3⟩ := k7 i x hx
      refine ⟨v, b, q1, q2, ?_⟩
      cases hl with
      | none => exact RepQ.mono hG q3
      | some q =>
        obtain ⟨k, d⟩ := q
        exact ⟨fun e => ⟨(q3.1 e).1, RepD.mono (B := fun _ => True) (fun _ _ => rfl) hG (fun id _ ob' h => ⟨ob', h, like_refl _, rfl⟩) (allD d) (q3.1 e).2⟩, fun e => RepQ.mono hG (q3.2 e)⟩
  where
  allB : ∀ ds : List D, bnds (fun _ => True) ds := fun ds => allBs ds
  allBs : (ds : List D) → bnds (fun _ => True) ds
    | [] => trivial
    | d :: ds => ⟨allD d, allBs ds⟩
  allD : (d : D) → d.bnd (fun _ => True)
    | .ptr _ _ => trivial
    | .bp _ _ _ => trivial
    | .sf _ => trivial
    | .clo _ ds => allBs ds
    | .ag ds => allBs ds
    | .tup ds => allBs ds
    | .gd _ _ _ => trivial
    | .kn _ _ => trivial
    | .junk => trivial
    | .fz _ _ => trivial
    | .fp _ _ _ => trivial
    | .nilp => trivial
    | .nils => trivial
    | .nt _ => trivial
    | .ifc _ d => allD d
    | .stp _ => trivial
theorem RepDs.wk {cell : Addr → Option Value} {G G' : Nat → Prop} {get : Nat → Option Ob} {γ : Gam} (hG : ∀ b, G b → G' b) {ds : List D} {vs : List Value} (h : RepDs cell G get γ ds vs) : RepDs cell G' get γ ds vs :=
  RepDs.mono (B := fun _ => True) (fun _ _ => rfl) hG (fun id _ ob' h => ⟨ob', h, like_refl _, rfl⟩) (ObRep.mono.allB ds) h

/-- A narrower frame's end is the wider's. -/
theorem hand_weak {B : Nat → Prop} {S S2 : St} {γ γ2 : Gam} {W W2 : World} {p : CP} {ds : List D} {x : p.T} {gt} {B2 : Nat → Prop} (hp : Hp F B S γ W) (hx : gaths S.get p ds = some x) (h : Hp (handF F S γ W p ds gt) B2 S2 γ2 W2) :
    Hp F B2 S2 γ2 W2 ∧ ∀ b, Frz (handF F S γ W p ds gt) S2 γ2 W2 b → Frz F S2 γ2 W2 b := by
  have hthere := gaths_there hx
  have hT : ∀ b, (handF F S γ W p ds gt).T b → F.T b ∨ F.W.heap.size ≤ b := fun b h => by
    obtain ⟨id, c, h1, h2⟩ := h
    cases ho : S.get id with
    | none => exact absurd ho (hthere id h1)
    | some ob => exact (hp.trk b ⟨id, ob, c, ho, h2⟩).1
  have hS : F.W.heap.size ≤ W.heap.size := hp.kept.size
  have hfr : ∀ b, Frz (handF F S γ W p ds gt) S2 γ2 W2 b → Frz F S2 γ2 W2 b := fun b hb => by
    obtain ⟨h1, h2, h3⟩ := hb
    refine ⟨?_, h2, h3⟩
    rcases h1 with h1 | h1 | h1
    · exact h1.1.1
    · exact .inr (hT b h1)
    · exact .inr (.inr (Nat.le_trans hS h1))
  refine ⟨⟨fun id ob ho => (h.obs id ob ho).mono hfr, h.inj, h.nd, fun b hb => ?_, ?_, h.obsB⟩, hfr⟩
  · obtain ⟨h1, h2⟩ := h.trk b hb
    refine ⟨?_, h2⟩
    rcases h1 with h1 | h1
    · exact hT b h1
    · exact .inr (Nat.le_trans hS h1)
  · have k := h.kept
    have k0 := hp.kept
    refine ⟨k.os.trans k0.os, k.tape.trans k0.tape, k.output.trans k0.output, Nat.le_trans hS k.size, fun b hb hn => (k.block b (Nat.lt_of_lt_of_le hb hS) (fun hTb => ?_)).trans (k0.block b hb hn)⟩
    rcases hT b hTb with h1 | h1
    · exact hn h1
    · omega
theorem out_weak {B : Nat → Prop} {S : St} {γ : Gam} {W W2 : World} {p : CP} {ds : List D} {x : p.T} {gt} {e : Exit} {a : Act} {γ0 : Gam} {l0 : Nat → Option Ob} (hp : Hp F B S γ W) (hx : gaths S.get p ds = some x) :
    ∀ {outs : List Out} {y : outT outs}, OutOK (handF F S γ W p ds gt) γ0 l0 outs y e a W2 → OutOK F γ0 l0 outs y e a W2
  | [], y, _ => nomatch y
  | o :: q, .inl x2, h => by
    simp only [OutOK] at h ⊢
    obtain ⟨h1, h2, h3, γ2, h4, h5, h6⟩ := h
    obtain ⟨k1, k2⟩ := hand_weak hp hx h4
    exact ⟨h1, h2, h3, γ2, k1, h5.wk k2, h6⟩
  | o :: q, .inr y, h => by
    simp only [OutOK] at h ⊢
    exact out_weak hp hx h

theorem sameIds_at : ∀ {nm og : List (Option Nat)} {i j : Nat}, sameIds nm og = true → idAt nm i = some j → og[i]? = some (some j)
  | [], _, _, _, _, h => by simp [idAt] at h
  | o :: r, [], i, j, h, _ => by cases o <;> simp [sameIds] at h
  | none :: r, _ :: s, 0, j, h, k => by simp [idAt] at k
  | none :: r, _ :: s, i + 1, j, h, k => by
    simp only [sameIds] at h
    simp only [idAt] at k
    simpa using sameIds_at h k
  | some j' :: r, none :: s, i, j, h, k => by simp [sameIds] at h
  | some j' :: r, some i' :: s, 0, j, h, k => by
    simp only [sameIds, Bool.and_eq_true] at h
    simp only [idAt, Option.some.injEq] at k
    subst k
    rw [Nat.eq_of_beq_eq_true h.1]
    rfl
  | some j' :: r, some i' :: s, i + 1, j, h, k => by
    simp only [sameIds, Bool.and_eq_true] at h
    simp only [idAt] at k
    simpa using sameIds_at h.2 k

/-- What a stretch of the run has kept. -/
theorem held_of {n : Nat} {S0 S : St} {γ0 γ : Gam} {W0 W : World} {p : CP} {ds : List D} {x : p.T} {nm : List (Option Nat)} (hst : Stp F (lt n) S0 γ0 W0 S γ W) (hx : gaths S.get p ds = some x) (hid : sameIds nm (orgss S.get p ds) = true) (hb : ∀ i j, idAt nm i = some j → j < n) :
    Held γ0 S0.get nm p.cnt (handG S γ p ds) (getM (scat p x 0).m) := fun i j hi hj => by
  have h1 := sameIds_at hid hj
  obtain ⟨ob, ob', k1, k2, k3⟩ := gaths_like hx 0 i j h1
  rw [Nat.zero_add] at k2
  obtain ⟨ob0, l1, l2, l3⟩ := hst.hold j (hb i j hj) ob k1
  refine ⟨?_, ob0, ob', l1, k2, like_trans l2 k3⟩
  refine Eq.trans (hd_of ?_) l3
  unfold handG
  rw [h1]
  rfl
theorem Held.trans {γ0 γ1 γ2 : Gam} {l0 l1 l2 : Nat → Option Ob} {nm fx : List (Option Nat)} {c1 c2 : Nat} (h : Held γ0 l0 fx c1 γ1 l1) (k : Held γ1 l1 nm c2 γ2 l2) (hn : ∀ i j, idAt nm i = some j → j < c1 ∧ idAt fx j = some j) : Held γ0 l0 nm c2 γ2 l2 := fun i j hi hj => by
  obtain ⟨k1, ob1, ob2, k2, k3, k4⟩ := k i j hi hj
  obtain ⟨m1, m2⟩ := hn i j hj
  obtain ⟨h1, ob0, ob1', h2, h3, h4⟩ := h j j m1 m2
  rw [h3] at k2
  simp only [Option.some.injEq] at k2
  subst k2
  exact ⟨k1.trans h1, ob0, ob2, h2, k3, like_trans h4 k4⟩

theorem coll_ok {n : Nat} {S0 : St} {γ0 : Gam} {W0 : World} {env : Env} {S : St} {γ : Gam} {a : Act} {W : World} {ex : Ex} {e : Exit} (he : exOf e = some ex) (hst : Stp F (lt n) S0 γ0 W0 S γ W) (rel : Rel F (lt S.nx) env S γ a W) : ∀ {outs : List Out} {y : outT outs}, (∀ o ∈ outs, ∀ i j, idAt o.nm i = some j → j < n) → coll outs ex env S = some y → OutOK F γ0 S0.get outs y e a W
  | [], y, _, _ => nomatch y
  | o :: q, y, hb, h => by
    simp only [coll] at h
    split at h
    · rename_i hb'
      rw [Bool.and_eq_true, Bool.and_eq_true, decide_eq_true_eq] at hb'
      obtain ⟨⟨hb1, hb2⟩, hb3⟩ := hb'
      cases hx : gaths S.get o.p (o.slots.map (getE env)) with
      | none =>
        rw [hx] at h
        simp only at h
        cases hq : coll q ex env S with
        | none => rw [hq] at h; simp at h
        | some y' =>
          rw [hq] at h
          have h := Option.some.inj h
          subst h
          simp only [OutOK]
          exact coll_ok he hst rel (fun o' h' => hb o' (List.mem_cons_of_mem _ h')) hq
      | some x =>
        rw [hx] at h
        have h := Option.some.inj h
        subst h
        obtain ⟨k1, k2⟩ := hand_ok (gt := fun b h => ⟨h.1.2.1, h.2⟩) rel hb2 hx
        obtain ⟨k3, k4⟩ := hand_weak rel.hp hx k1.hp
        simp only [OutOK]
        exact ⟨by rw [he, hb1], rel.defers, rel.size, _, k3, k2.wk k4, held_of hst hx hb3 (hb o List.mem_cons_self)⟩
    · cases hq : coll q ex env S with
      | none => rw [hq] at h; simp at h
      | some y' =>
        rw [hq] at h
        have h := Option.some.inj h
        subst h
        simp only [OutOK]
        exact coll_ok he hst rel (fun o' h' => hb o' (List.mem_cons_of_mem _ h')) hq

/-- Rounds. -/
def iter {A B : Type} (step : (A → Option B) → A → Option B) : Nat → A → Option B
  | 0 => fun _ => none
  | k + 1 => step (iter step k)

/-- The names are of what came in, and, for a loop, of what stays. -/
def namesB (L : LCtr) (fixed : Bool) : Bool := (L.outs.all fun o => (somes o.nm).all fun j => Nat.blt j L.ins.cnt && (!fixed || (match idAt L.fix j with
    | some i => Nat.beq i j
    | none => false))) &&
  (List.range L.fix.length).all fun i => match idAt L.fix i with
    | some j => Nat.beq i j && Nat.blt i L.ins.cnt
    | none => true
theorem names_out {L : LCtr} {fixed : Bool} (h : namesB L fixed = true) {o : Out} (ho : o ∈ L.outs) {i j : Nat} (hj : idAt o.nm i = some j) : j < L.ins.cnt ∧ (fixed = true → idAt L.fix j = some j) := by
  unfold namesB at h
  rw [Bool.and_eq_true] at h
  have h1 := List.all_eq_true.1 (List.all_eq_true.1 h.1 o ho) j (somes_mem.2 (List.mem_of_getElem? (idAt_some hj)))
  rw [Bool.and_eq_true] at h1
  refine ⟨by have := h1.1; rw [Nat.blt_eq] at this; exact this, fun hf => ?_⟩
  subst hf
  have h2 := h1.2
  simp only [Bool.not_true, Bool.false_or] at h2
  split at h2
  · rename_i i' hi'
    rw [hi', Nat.eq_of_beq_eq_true h2]
  · cases h2
theorem names_fix {L : LCtr} {fixed : Bool} (h : namesB L fixed = true) {i j : Nat} (hj : idAt L.fix i = some j) : j < L.ins.cnt ∧ idAt L.fix j = some j := by
  unfold namesB at h
  rw [Bool.and_eq_true] at h
  have hl : i < L.fix.length := by
    rcases Nat.lt_or_ge i L.fix.length with h1 | h1
    · exact h1
    · have := idAt_some hj
      rw [List.getElem?_eq_none h1] at this
      cases this
  have h1 := List.all_eq_true.1 h.2 i (List.mem_range.2 hl)
  rw [hj] at h1
  simp only [Bool.and_eq_true] at h1
  have e := Nat.eq_of_beq_eq_true h1.1
  have h2 := h1.2
  rw [Nat.blt_eq] at h2
  subst e
  exact ⟨h2, hj⟩

theorem rounds_ok {cfg : Cfg} (hC : CfgOK P cfg) {n : Nat} {c : Code} {L : LCtr} (hc : PiecesOK P n cfg c) (hN : namesB L true = true) {step : (L.ins.T → Option (outT L.outs)) → L.ins.T → Option (outT L.outs)}
    (hs : ∀ g x, step g x = den cfg n c (inE L x) ⟨(scat L.ins x 0).n, (scat L.ins x 0).m⟩ (round L g)) (y : outT L.outs) (a₀ : Act) (γ0 : Gam) (l0 : Nat → Option Ob) (Q : Exit → Act → World → Prop) :
    ∀ (k : Nat) (x : L.ins.T), iter step k x = some y → ∀ (F : Fm) (γ : Gam) (a : Act) (W : World), F.n = n → Held γ0 l0 L.fix L.ins.cnt γ (getM (scat L.ins x 0).m) → Rel F (lt (scat L.ins x 0).n) (inE L x) ⟨(scat L.ins x 0).n, (scat L.ins x 0).m⟩ γ a W → Same (writes c) a₀ a →
      (∀ e a' W', OutOK F γ0 l0 L.outs y e a' W' → Same (writes c) a₀ a' → Q e a' W') → Code.rounds P c Q k a W
  | 0, x, h, _, _, _, _, _, _, _, _, _ => by simp [iter] at h
  | k + 1, x, h, F, γ, a, W, hn, hH, rel, hsame, hQ => by
    subst hn
    rw [rounds_succ]
    simp only [iter] at h
    rw [hs] at h
    have hcn : (scat L.ins x 0).n = L.ins.cnt := by
      have := scat_n L.ins x 0
      omega
    -- the ways out, seen from the start
    have hout : ∀ {outs : List Out} {z : outT outs} {e : Exit} {a' : Act} {W' : World}, (∀ o ∈ outs, o ∈ L.outs) → OutOK F γ (getM (scat L.ins x 0).m) outs z e a' W' → OutOK F γ0 l0 outs z e a' W' := by
      intro outs
      induction outs with
      | nil => intro z; exact nomatch z
      | cons o q ih =>
        intro z e a' W' hm ho
        cases z with
        | inl x2 =>
          simp only [OutOK] at ho ⊢
          obtain ⟨h1, h2, h3, γ2, h4, h5, h6⟩ := ho
          exact ⟨h1, h2, h3, γ2, h4, h5, hH.trans h6 (fun i j hj => ⟨(names_out hN (hm o List.mem_cons_self) hj).1, (names_out hN (hm o List.mem_cons_self) hj).2 rfl⟩)⟩
        | inr z =>
          simp only [OutOK] at ho ⊢
          exact ih (fun o' h' => hm o' (List.mem_cons_of_mem _ h')) ho
    have hob : ∀ o ∈ L.outs, ∀ i j, idAt o.nm i = some j → j < (scat L.ins x 0).n := fun o ho i j hj => by
      have := (names_out hN ho hj).1
      omega
    refine wp_mono (den_ok hC c hc rel h) (fun e a' W' hq => ?_)
    obtain ⟨ex, env', S', γ', h1, h2, h3, h4⟩ := hq
    have hsame2 := hsame.trans h2.1
    cases ex with
    | normal =>
      have := exOf_normal h1
      subst this
      simp only [round, next] at h4
      simp only [Exit.then]
      split at h4
      · rename_i x' hb hx
        rw [Bool.and_eq_true] at hb
        split at h4
        case h_2 => cases h4
        rename_i hb5
        obtain ⟨hb6, h4⟩ := ckL_some h4
        have k1 := (hand_ok (gt := fun b h => ⟨h.1.2.1, h.2⟩) h3 hb.1 hx).1.app' (als_ok h3 hx hb5 hb6)
        have k2 := held_of h2.2.2 hx hb.2 (fun i j hj => by
          have := (names_fix hN hj).1
          show j < (scat L.ins x 0).n
          omega)
        exact rounds_ok hC hc hN hs y a₀ γ0 l0 Q k x' h4 (handF F S' γ' W' L.ins (L.slots.map (getE env')) (fun b h => ⟨h.1.2.1, h.2⟩)) _ a' W' rfl (hH.trans k2 (fun i j hj => names_fix hN hj)) k1 hsame2 (fun e a2 W2 ho hs2 => hQ e a2 W2 (out_weak h3.hp hx ho) hs2)
      · cases h4
    | exit id =>
      have := exOf_exit h1
      subst this
      exact hQ _ _ _ (hout (fun _ h => h) (coll_ok rfl h2.2.2 h3 hob h4)) hsame2
    | ret =>
      have := exOf_ret h1
      subst this
      exact hQ _ _ _ (hout (fun _ h => h) (coll_ok rfl h2.2.2 h3 hob h4)) hsame2

theorem held_refl {γ : Gam} {L : LCtr} {x : L.ins.T} (hN : namesB L true = true) : Held γ (getM (scat L.ins x 0).m) L.fix L.ins.cnt γ (getM (scat L.ins x 0).m) := fun i j hi hj => by
  have h1 : i < L.fix.length := by
    rcases Nat.lt_or_ge i L.fix.length with h1 | h1
    · exact h1
    · have := idAt_some hj
      rw [List.getElem?_eq_none h1] at this
      cases this
  have h2 : i = j := by
    unfold namesB at hN
    rw [Bool.and_eq_true] at hN
    have h3 := List.all_eq_true.1 hN.2 i (List.mem_range.2 h1)
    rw [hj] at h3
    simp only [Bool.and_eq_true] at h3
    exact Nat.eq_of_beq_eq_true h3.1
  subst h2
  obtain ⟨ob, ho⟩ := scat_has L.ins x 0 (scat_keyT L.ins x (n := 0) (id := i) ⟨by omega, by omega⟩)
  exact ⟨rfl, ob, ob, ho, ho, like_refl _⟩

/-- A loop, by its rounds. -/
theorem loop_ok {cfg : Cfg} (hC : CfgOK P cfg) {n : Nat} {c : Code} {L : LCtr} (hc : PiecesOK P n cfg c) (hN : namesB L true = true) {step : (L.ins.T → Option (outT L.outs)) → L.ins.T → Option (outT L.outs)}
    (hs : ∀ g x, step g x = den cfg n c (inE L x) ⟨(scat L.ins x 0).n, (scat L.ins x 0).m⟩ (round L g)) (hf : ∀ x y, L.f x = some y → ∃ k, iter step k x = some y) : PieceOK P n (.loop c) L := by
  intro x y hy F γ a W hn rel
  obtain ⟨k, hk⟩ := hf x y hy
  exact wp_loop_rounds k (rounds_ok hC hc hN hs y a γ _ _ k x hk F γ a W hn (held_refl hN) rel (Same.refl _ _) (fun e a' W' h1 h2 => ⟨h1, h2⟩))

/-- A piece that is no loop: its ways out. -/
theorem join_ok {cfg : Cfg} (hC : CfgOK P cfg) {n : Nat} {c : Code} {L : LCtr} (hc : PiecesOK P n cfg c) (hN : namesB L false = true)
    (hs : ∀ x, L.f x = den cfg n c (inE L x) ⟨(scat L.ins x 0).n, (scat L.ins x 0).m⟩ (coll L.outs)) : PieceOK P n c L := by
  intro x y hy F γ a W hn rel
  subst hn
  rw [hs] at hy
  have hcn : (scat L.ins x 0).n = L.ins.cnt := by
    have := scat_n L.ins x 0
    omega
  refine wp_mono (den_ok hC c hc rel hy) (fun e a' W' hq => ?_)
  obtain ⟨ex, env', S', γ', h1, h2, h3, h4⟩ := hq
  exact ⟨coll_ok (S0 := ⟨(scat L.ins x 0).n, (scat L.ins x 0).m⟩) h1 h2.2.2 h3 (fun o ho i j hj => by
    have := (names_out hN ho hj).1
    simp only
    omega) h4, h2.1⟩

/-- What rounds come to, where they come to something. -/
noncomputable def lim {A B : Type} (step : (A → Option B) → A → Option B) (x : A) : Option B :=
  open Classical in if h : ∃ y m, ∀ k, m ≤ k → iter step k x = some y then some h.choose else none
theorem lim_iter {A B : Type} {step : (A → Option B) → A → Option B} {x : A} {y : B} (h : lim step x = some y) : ∃ k, iter step k x = some y := by
  unfold lim at h
  split at h
  · rename_i hh
    simp only [Option.some.injEq] at h
    subst h
    obtain ⟨m, hm⟩ := hh.choose_spec
    exact ⟨m, hm m (Nat.le_refl _)⟩
  · cases h
theorem lim_eq {A B : Type} {step : (A → Option B) → A → Option B} {x : A} {y : B} (m : Nat) (h : ∀ k, m ≤ k → iter step k x = some y) : lim step x = some y := by
  have hh : ∃ y m, ∀ k, m ≤ k → iter step k x = some y := ⟨y, m, h⟩
  unfold lim
  rw [dif_pos hh]
  obtain ⟨m', hm'⟩ := hh.choose_spec
  have h1 := hm' (max m m') (Nat.le_max_right _ _)
  have h2 := h (max m m') (Nat.le_max_left _ _)
  rw [h2] at h1
  exact congrArg some (Option.some.inj h1).symm
end
end Go.XD


/- Functions. -/
namespace Go.XD

def tyLen : Ty → Nat
  | .cons _ r => tyLen r + 1
  | _ => 0

section
variable {P : Program}

theorem repA_ds {cell : Addr → Option Value} {G : Nat → Prop} {get : Nat → Option Ob} {γ : Gam} : ∀ {f : Ty} {x : f.T} {vs : List Value}, RepA cell G f x vs → RepDs cell G get γ (resD f x) vs ∧ vs.length = tyLen f
  | .nil, x, vs, h => by
    simp only [RepA] at h
    subst h
    simp [resD, RepDs, tyLen]
  | .cons a b, x, vs, h => by
    simp only [RepA] at h
    obtain ⟨v, r, rfl, h1, h2⟩ := h
    obtain ⟨k1, k2⟩ := repA_ds (get := get) (γ := γ) h2
    simp only [resD, RepDs, RepD, List.length_cons, tyLen, k2, and_true]
    exact ⟨v, r, rfl, h1, k1⟩
  | .int _, _, _, h => by simp [RepA] at h
  | .bool, _, _, h => by simp [RepA] at h
  | .str, _, _, h => by simp [RepA] at h
  | .lst _, _, _, h => by simp [RepA] at h
  | .ptr _, _, _, h => by simp [RepA] at h
  | .st _, _, _, h => by simp [RepA] at h

theorem zip_from {cell : Addr → Option Value} {G : Nat → Prop} {get : Nat → Option Ob} {γ : Gam} {B : Nat → Prop} {tm : Nat → Value} : ∀ {ds : List D} {vs : List Value} (k n : Nat), RepDs cell G get γ ds vs → (∀ d ∈ ds, ∃ t y, d = .fz t y) → (∀ i v, vs[i]? = some v → tm (n + i) = v) →
    ∀ s, SlotRep B cell G get γ tm (getE (zipE (List.range' n k) ds) s) (tm s) ∧ (getE (zipE (List.range' n k) ds) s).bnd B
  | [], vs, k, n, h, hf, ht, s => by
    have : zipE (List.range' n k) [] = [] := by cases k <;> simp [List.range'_succ, zipE]
    rw [this]
    exact junk_slot s
  | d :: ds, vs, 0, n, h, hf, ht, s => by
    simp only [List.range'_zero, zipE]
    exact junk_slot s
  | d :: ds, vs, k + 1, n, h, hf, ht, s => by
    simp only [RepDs] at h
    obtain ⟨v, r, rfl, h1, h2⟩ := h
    rw [List.range'_succ]
    simp only [zipE]
    rw [getE_cons]
    split
    · rename_i e
      subst e
      obtain ⟨t, y, rfl⟩ := hf d List.mem_cons_self
      have h0 := ht 0 v rfl
      rw [Nat.add_zero] at h0
      rw [h0]
      simp only [SlotRep]
      exact ⟨h1, trivial⟩
    · exact zip_from k (n + 1) h2 (fun d hd => hf d (List.mem_cons_of_mem _ hd)) (fun i v hv => by
        rw [← ht (i + 1) v (by simpa using hv)]
        congr 1
        omega) s

theorem load_var {t : TypeId} {v u : Value} {W W' : World} (h : (Instr.loadAt t v).run P W = .ok u W') : ((asAddr v).run P W).andThen (fun a w => (loadVar t a).run P w) = .ok u W' := by
  cases v with
  | pointer a =>
    cases a with
    | none => simp [Instr.loadAt, Instr.sureAddr] at h
    | some a =>
      simp only [Instr.loadAt, Instr.sureAddr, Sem.run_bind, Sem.run_pure, Result.andThen_ok] at h
      simp only [asAddr, Sem.run_pure, Result.andThen_ok]
      exact h
  | _ => simp [Instr.loadAt, Instr.sureAddr] at h

/-- A function's result, of one result variable. -/
def resOne (tm : Array Value) (r : ResultVar) : Sem Value := match r with
  | .tmp t => pure (tm.getD t undef)
  | .cell q t => do loadVar t (← asAddr (tm.getD q undef))

theorem fin_run {F : Fm} {B : Nat → Prop} {env : Env} {S : St} {γ : Gam} {a : Act} {W : World} (rel : Rel F B env S γ a W) : ∀ {rs : List ResultVar} {ds : List D}, finV P S env rs = some ds →
    ∃ vs, (rs.mapM (resOne a.tmps)).run P W = .ok vs W ∧ RepDs W.cell? (Frz F S γ W) S.get γ ds vs
  | [], ds, h => by
    simp only [finV, Option.some.injEq] at h
    subst h
    exact ⟨[], by simp, by simp only [RepDs]⟩
  | .tmp t :: r, ds, h => by
    simp only [finV] at h
    cases hq : finV P S env r with
    | none => rw [hq] at h; simp at h
    | some es =>
      rw [hq] at h
      simp only [Option.some.injEq] at h
      subst h
      obtain ⟨vs, h1, h2⟩ := fin_run rel hq
      refine ⟨a.tmps.getD t undef :: vs, ?_, ?_⟩
      · simp only [List.mapM_cons, resOne, Sem.run_bind, Sem.run_pure, Result.andThen_ok, h1]
      · simp only [RepDs]
        exact ⟨_, _, rfl, (rel.at t).1, h2⟩
  | .cell q t :: r, ds, h => by
    simp only [finV] at h
    cases hl : xLoad P S.get t (getE env q) with
    | none => rw [hl] at h; simp at h
    | some d =>
      cases hq : finV P S env r with
      | none => rw [hl, hq] at h; simp at h
      | some es =>
        rw [hl, hq] at h
        simp only [Option.some.injEq] at h
        subst h
        obtain ⟨vs, h1, h2⟩ := fin_run rel hq
        obtain ⟨u, k1, k2, _⟩ := load_ok rel.hp (rel.at q).1 (rel.at q).2 hl
        have k3 := load_var k1
        refine ⟨u :: vs, ?_, ?_⟩
        · simp only [List.mapM_cons, resOne, Sem.run_bind, Sem.run_pure]
          have k3' : ((asAddr (a.tmps.getD q undef)).run P W).andThen (fun a w => (loadVar t a).run P w) = .ok u W := k3
          rw [k3']
          simp only [Result.andThen_ok, h1]
        · simp only [RepDs]
          exact ⟨_, _, rfl, k2, h2⟩

theorem fun_ok {cfg : Cfg} (hC : CfgOK P cfg) {n : FuncId} {fn : Func} {c : Code} {ins out : Ty} {g : ins.T → Option out.T} (h1 : P.funcs[n]? = some fn) (h2 : (fn.name == "runtime.NumGoroutine") = false) (h3 : fn.body = some c)
    (hl : Nat.ble (tyLen ins) fn.ntmps = true) (hc : PiecesOK P fn.ntmps cfg c) (hg : ∀ x, g x = body cfg fn c ins out x) : CtrOK P n ⟨ins, out, g, none⟩ := by
  refine ⟨⟨fn, h1, h2, by rw [h3]; rfl⟩, fun x y hy W G args hG hA => ?_⟩
  rw [show (Ctr.mk ins out g none).f x = g x from rfl, hg] at hy
  unfold body at hy
  obtain ⟨hds, hlen⟩ := repA_ds (get := fun _ => none) (γ := fun _ => []) hA
  have hl' := Nat.le_of_ble_eq_true hl
  simp only at hlen hds
  refine calls_of_wp h1 h3 ?_
  have gt : ∀ b, G b → b < W.heap.size ∧ ¬ False := fun b hb => ⟨hG b hb, id⟩
  let F : Fm := ⟨W, fun _ => False, G, fn.ntmps, gt⟩
  have htr : ∀ b, ¬ tracked ⟨0, []⟩ (fun _ => []) b := fun b h => by
    obtain ⟨id, ob, c, h1, _⟩ := h
    simp [St.get, getM] at h1
  have hgf : ∀ b, G b → Frz F ⟨0, []⟩ (fun _ => []) W b := fun b hb => ⟨.inl hb, hG b hb, htr b⟩
  have hds' : RepDs W.cell? (Frz F ⟨0, []⟩ (fun _ => []) W) (St.get ⟨0, []⟩) (fun _ => []) (resD ins x) args := fzs_rep (fun _ _ => rfl) hgf (fun d hd => resD_fz hd) hds
  have hslots := zip_from (B := lt 0) (tm := fun s => (args.toArray ++ Array.replicate (fn.ntmps - args.toArray.size) undef).getD s undef) 64 0 hds' (fun d hd => resD_fz hd) (fun i v hv => by
    have hi : i < args.length := by
      rcases Nat.lt_or_ge i args.length with h | h
      · exact h
      · rw [List.getElem?_eq_none h] at hv; cases hv
    rw [Array.getD_eq_getD_getElem?, Nat.zero_add, Array.getElem?_append_left (by simpa using hi)]
    simp only [List.getElem?_toArray, hv, Option.getD_some])
  have rel : Rel F (lt 0) (zipE (List.range 64) (resD ins x)) ⟨0, []⟩ (fun _ => []) { tmps := args.toArray ++ Array.replicate (fn.ntmps - args.toArray.size) undef, defers := [] } W := by
    refine ⟨⟨fun id ob h => by simp [St.get, getM] at h, fun id id' ob ob' g c c' h => by simp [St.get, getM] at h, fun id ob h => by simp [St.get, getM] at h, fun b hb => absurd hb (htr b), ⟨rfl, rfl, rfl, Nat.le_refl _, fun _ _ _ => rfl⟩, fun id ob h => by simp [St.get, getM] at h⟩, fun s => ?_, rfl, ?_, fun s => ?_⟩
    · have := (hslots s).1
      rw [← List.range_eq_range'] at this
      exact this
    · simp only [Array.size_append, Array.size_replicate, List.size_toArray]
      show _ = fn.ntmps
      omega
    · have := (hslots s).2
      rw [← List.range_eq_range'] at this
      exact this
  refine wp_mono (den_ok (F := F) hC c hc rel hy) (fun e a' W' hq => ?_)
  obtain ⟨ex, env', S', γ', k1, _, k2, k3⟩ := hq
  have key : ∃ v, (results fn a'.tmps).run P W' = .ok v W' ∧ ∃ v', (Ending.returned v : Ending) = .returned v' ∧ RepR W'.cell? (fun b => G b ∨ (W.heap.size ≤ b ∧ b < W'.heap.size)) ⟨ins, out, g, none⟩ y v' ∧ Go.RowKit.Below W.heap.size W W' := by
    have k4 : ∃ ds, finV cfg.P S' env' fn.results.toList = some ds ∧ convA S'.get out ds = some y := by
      cases ex with
      | exit _ => simp [fin] at k3
      | _ =>
        simp only [fin] at k3
        cases hq : finV cfg.P S' env' fn.results.toList with
        | none => rw [hq] at k3; simp at k3
        | some ds => rw [hq] at k3; exact ⟨ds, rfl, k3⟩
    obtain ⟨ds, k5, k6⟩ := k4
    rw [hC.pg] at k5
    obtain ⟨vs, k7, k8⟩ := fin_run k2 k5
    have hA' : RepA W'.cell? (fun b => G b ∨ (W.heap.size ≤ b ∧ b < W'.heap.size)) out y vs := convA_rep k2.hp (fun b hb => by
      rcases hb.1 with h | h | h
      · exact .inl h
      · exact h.elim
      · exact .inr ⟨h, hb.2.1⟩) k6 k8 (fun id hid hne g cc hgg => by
        cases ho : S'.get id with
        | none => exact absurd ho hne
        | some ob =>
          obtain ⟨t1, t2⟩ := k2.hp.trk g ⟨id, ob, cc, ho, hgg⟩
          rcases t1 with t1 | t1
          · exact t1.elim
          · exact .inr ⟨t1, t2⟩)
    obtain ⟨hrd, _⟩ := repA_ds (get := fun _ => none) (γ := fun _ => []) hA'
    have kk := k2.hp.kept
    have hbel : Go.RowKit.Below W.heap.size W W' := ⟨kk.os, kk.tape, kk.output, kk.size, fun b hb => kk.block b hb id⟩
    have hrun : (results fn a'.tmps).run P W' = .ok (if h : vs.toArray.size = 1 then vs.toArray[0] else .tuple vs.toArray) W' := by
      have e : results fn a'.tmps = (do
          let vs ← fn.results.mapM (resOne a'.tmps)
          pure (if h : vs.size = 1 then vs[0] else .tuple vs)) := rfl
      rw [e, Sem.run_bind, Array.mapM_eq_mapM_toList, Sem.run_map, k7]
      rfl
    refine ⟨_, hrun, _, rfl, ?_, hbel⟩
    unfold RepR retD
    simp only
    rcases tupD_cases (resD out y) with ⟨d, e1, e2⟩ | ⟨e1, e2⟩
    · rw [e1] at hrd
      simp only [RepDs] at hrd
      obtain ⟨v, r, rfl, h1, rfl⟩ := hrd
      rw [e2]
      simpa using h1
    · rw [e1]
      have hne : vs.toArray.size ≠ 1 := fun h => by
        match vs, h with
        | [v], _ =>
          cases hr : resD out y with
          | nil => rw [hr] at hrd; simp [RepDs] at hrd
          | cons d r =>
            rw [hr] at hrd
            simp only [RepDs] at hrd
            obtain ⟨v', r', h1, _, h2⟩ := hrd
            simp only [List.cons.injEq] at h1
            obtain ⟨_, rfl⟩ := h1
            cases r with
            | nil => exact e2 d hr
            | cons _ _ => simp [RepDs] at h2
      rw [dif_neg hne]
      simp only [RepD]
      exact ⟨vs, rfl, hrd⟩
  obtain ⟨v, hv1, hv2⟩ := key
  cases ex with
  | exit _ => simp [fin] at k3
  | normal =>
    have := exOf_normal k1
    subst this
    exact ⟨k2.defers, v, hv1, hv2⟩
  | ret =>
    have := exOf_ret k1
    subst this
    exact ⟨k2.defers, v, hv1, hv2⟩
/-- The same, of a function that gives a closure. -/
theorem fun_okC {cfg : Cfg} (hC : CfgOK P cfg) {n : FuncId} {fn : Func} {c : Code} {ins out : Ty} {k : Nat} {g : ins.T → Option out.T} (h1 : P.funcs[n]? = some fn) (h2 : (fn.name == "runtime.NumGoroutine") = false) (h3 : fn.body = some c)
    (hl : Nat.ble (tyLen ins) fn.ntmps = true) (hc : PiecesOK P fn.ntmps cfg c) (hg : ∀ x, g x = bodyC cfg fn c ins out k x) : CtrOK P n ⟨ins, out, g, some k⟩ := by
  refine ⟨⟨fn, h1, h2, by rw [h3]; rfl⟩, fun x y hy W G args hG hA => ?_⟩
  rw [show (Ctr.mk ins out g (some k)).f x = g x from rfl, hg] at hy
  unfold bodyC at hy
  obtain ⟨hds, hlen⟩ := repA_ds (get := fun _ => none) (γ := fun _ => []) hA
  have hl' := Nat.le_of_ble_eq_true hl
  simp only at hlen hds
  refine calls_of_wp h1 h3 ?_
  have gt : ∀ b, G b → b < W.heap.size ∧ ¬ False := fun b hb => ⟨hG b hb, id⟩
  let F : Fm := ⟨W, fun _ => False, G, fn.ntmps, gt⟩
  have htr : ∀ b, ¬ tracked ⟨0, []⟩ (fun _ => []) b := fun b h => by
    obtain ⟨id, ob, c, h1, _⟩ := h
    simp [St.get, getM] at h1
  have hgf : ∀ b, G b → Frz F ⟨0, []⟩ (fun _ => []) W b := fun b hb => ⟨.inl hb, hG b hb, htr b⟩
  have hds' : RepDs W.cell? (Frz F ⟨0, []⟩ (fun _ => []) W) (St.get ⟨0, []⟩) (fun _ => []) (resD ins x) args := fzs_rep (fun _ _ => rfl) hgf (fun d hd => resD_fz hd) hds
  have hslots := zip_from (B := lt 0) (tm := fun s => (args.toArray ++ Array.replicate (fn.ntmps - args.toArray.size) undef).getD s undef) 64 0 hds' (fun d hd => resD_fz hd) (fun i v hv => by
    have hi : i < args.length := by
      rcases Nat.lt_or_ge i args.length with h | h
      · exact h
      · rw [List.getElem?_eq_none h] at hv; cases hv
    rw [Array.getD_eq_getD_getElem?, Nat.zero_add, Array.getElem?_append_left (by simpa using hi)]
    simp only [List.getElem?_toArray, hv, Option.getD_some])
  have rel : Rel F (lt 0) (zipE (List.range 64) (resD ins x)) ⟨0, []⟩ (fun _ => []) { tmps := args.toArray ++ Array.replicate (fn.ntmps - args.toArray.size) undef, defers := [] } W := by
    refine ⟨⟨fun id ob h => by simp [St.get, getM] at h, fun id id' ob ob' g c c' h => by simp [St.get, getM] at h, fun id ob h => by simp [St.get, getM] at h, fun b hb => absurd hb (htr b), ⟨rfl, rfl, rfl, Nat.le_refl _, fun _ _ _ => rfl⟩, fun id ob h => by simp [St.get, getM] at h⟩, fun s => ?_, rfl, ?_, fun s => ?_⟩
    · have := (hslots s).1
      rw [← List.range_eq_range'] at this
      exact this
    · simp only [Array.size_append, Array.size_replicate, List.size_toArray]
      show _ = fn.ntmps
      omega
    · have := (hslots s).2
      rw [← List.range_eq_range'] at this
      exact this
  refine wp_mono (den_ok (F := F) hC c hc rel hy) (fun e a' W' hq => ?_)
  obtain ⟨ex, env', S', γ', k1, _, k2, k3⟩ := hq
  have key : ∃ v, (results fn a'.tmps).run P W' = .ok v W' ∧ ∃ v', (Ending.returned v : Ending) = .returned v' ∧ RepR W'.cell? (fun b => G b ∨ (W.heap.size ≤ b ∧ b < W'.heap.size)) ⟨ins, out, g, some k⟩ y v' ∧ Go.RowKit.Below W.heap.size W W' := by
    have k4 : ∃ ds, finV cfg.P S' env' fn.results.toList = some [.clo k ds] ∧ convA S'.get out ds = some y := by
      cases ex with
      | exit _ => simp [finC] at k3
      | _ =>
        simp only [finC] at k3
        cases hq : finV cfg.P S' env' fn.results.toList with
        | none => rw [hq] at k3; simp at k3
        | some es =>
          rw [hq] at k3
          split at k3
          · rename_i k' ds he
            cases hk : Nat.beq k' k with
            | false => rw [hk] at k3; simp at k3
            | true =>
              rw [hk] at k3
              simp only [Option.some.injEq] at he
              have := Nat.eq_of_beq_eq_true hk
              subst this
              exact ⟨ds, by rw [he], k3⟩
          · cases k3
    obtain ⟨ds, k5, k6⟩ := k4
    rw [hC.pg] at k5
    obtain ⟨vs0, k7, k80⟩ := fin_run k2 k5
    simp only [RepDs] at k80
    obtain ⟨v0, r0, rfl, k81, rfl⟩ := k80
    simp only [RepD] at k81
    obtain ⟨vs, rfl, k8⟩ := k81
    have hA' : RepA W'.cell? (fun b => G b ∨ (W.heap.size ≤ b ∧ b < W'.heap.size)) out y vs := convA_rep k2.hp (fun b hb => by
      rcases hb.1 with h | h | h
      · exact .inl h
      · exact h.elim
      · exact .inr ⟨h, hb.2.1⟩) k6 k8 (fun id hid hne g cc hgg => by
        cases ho : S'.get id with
        | none => exact absurd ho hne
        | some ob =>
          obtain ⟨t1, t2⟩ := k2.hp.trk g ⟨id, ob, cc, ho, hgg⟩
          rcases t1 with t1 | t1
          · exact t1.elim
          · exact .inr ⟨t1, t2⟩)
    obtain ⟨hrd, _⟩ := repA_ds (get := fun _ => none) (γ := fun _ => []) hA'
    have kk := k2.hp.kept
    have hbel : Go.RowKit.Below W.heap.size W W' := ⟨kk.os, kk.tape, kk.output, kk.size, fun b hb => kk.block b hb id⟩
    have hrun : (results fn a'.tmps).run P W' = .ok (.func (.func k) #[] vs.toArray) W' := by
      have e : results fn a'.tmps = (do
          let vs ← fn.results.mapM (resOne a'.tmps)
          pure (if h : vs.size = 1 then vs[0] else .tuple vs)) := rfl
      rw [e, Sem.run_bind, Array.mapM_eq_mapM_toList, Sem.run_map, k7]
      rfl
    refine ⟨_, hrun, _, rfl, ?_, hbel⟩
    unfold RepR retD
    simp only [RepD]
    exact ⟨vs, rfl, hrd⟩
  obtain ⟨v, hv1, hv2⟩ := key
  cases ex with
  | exit _ => simp [finC] at k3
  | normal =>
    have := exOf_normal k1
    subst this
    exact ⟨k2.defers, v, hv1, hv2⟩
  | ret =>
    have := exOf_ret k1
    subst this
    exact ⟨k2.defers, v, hv1, hv2⟩
end
end Go.XD


/- Callees told by their own run. -/
namespace Go.XD

noncomputable def inlF (cfg : Cfg) (n : Nat) (c : Code) (rs : List ResultVar) : Inl := fun α args S K => match Nat.ble args.length n && args.all (fun d => !d.isGd) with
  | true => den cfg n c (zipE (List.range 64) args) S fun e env S' => match e with
    | .exit _ => none
    | _ => match finV cfg.P S' env rs with
      | some ds => K (tupD ds) S'
      | none => none
  | false => none

section
variable {P : Program}

theorem zip_from2 {cell : Addr → Option Value} {G : Nat → Prop} {get : Nat → Option Ob} {γ : Gam} {B : Nat → Prop} {tm : Nat → Value} : ∀ {ds : List D} {vs : List Value} (k n : Nat), RepDs cell G get γ ds vs → bnds B ds → (∀ d ∈ ds, d.isGd = false) → (∀ i v, vs[i]? = some v → tm (n + i) = v) →
    ∀ s, SlotRep B cell G get γ tm (getE (zipE (List.range' n k) ds) s) (tm s) ∧ (getE (zipE (List.range' n k) ds) s).bnd B
  | [], vs, k, n, h, hb, hf, ht, s => by
    have : zipE (List.range' n k) [] = [] := by cases k <;> simp [List.range'_succ, zipE]
    rw [this]
    exact junk_slot s
  | d :: ds, vs, 0, n, h, hb, hf, ht, s => by
    simp only [List.range'_zero, zipE]
    exact junk_slot s
  | d :: ds, vs, k + 1, n, h, hb, hf, ht, s => by
    simp only [RepDs] at h
    obtain ⟨v, r, rfl, h1, h2⟩ := h
    simp only [bnds] at hb
    rw [List.range'_succ]
    simp only [zipE]
    rw [getE_cons]
    split
    · rename_i e
      subst e
      have h0 := ht 0 v rfl
      rw [Nat.add_zero] at h0
      rw [h0]
      refine ⟨?_, hb.1⟩
      have := hf d List.mem_cons_self
      cases d with
      | gd _ _ _ => cases this
      | kn _ _ => cases this
      | _ => simpa only [SlotRep] using h1
    · exact zip_from2 k (n + 1) h2 hb.2 (fun d hd => hf d (List.mem_cons_of_mem _ hd)) (fun i v hv => by
        rw [← ht (i + 1) v (by simpa using hv)]
        congr 1
        omega) s

theorem fin_bnd {F : Fm} {B : Nat → Prop} {env : Env} {S : St} {γ : Gam} {a : Act} {W : World} (rel : Rel F B env S γ a W) : ∀ {rs : List ResultVar} {ds : List D}, finV P S env rs = some ds → bnds B ds
  | [], ds, h => by
    simp only [finV, Option.some.injEq] at h
    subst h
    trivial
  | .tmp t :: r, ds, h => by
    simp only [finV] at h
    cases hq : finV P S env r with
    | none => rw [hq] at h; simp at h
    | some es =>
      rw [hq] at h
      simp only [Option.some.injEq] at h
      subst h
      exact ⟨rel.envB t, fin_bnd rel hq⟩
  | .cell q t :: r, ds, h => by
    simp only [finV] at h
    cases hl : xLoad P S.get t (getE env q) with
    | none => rw [hl] at h; simp at h
    | some d =>
      cases hq : finV P S env r with
      | none => rw [hl, hq] at h; simp at h
      | some es =>
        rw [hl, hq] at h
        simp only [Option.some.injEq] at h
        subst h
        obtain ⟨u, k1, k2, k3⟩ := load_ok rel.hp (rel.at q).1 (rel.at q).2 hl
        exact ⟨k3, fin_bnd rel hq⟩

theorem results_run {F : Fm} {B : Nat → Prop} {env : Env} {S : St} {γ : Gam} {a : Act} {W : World} (rel : Rel F B env S γ a W) {fn : Func} {ds : List D} (h : finV P S env fn.results.toList = some ds) :
    ∃ v, (results fn a.tmps).run P W = .ok v W ∧ RepD W.cell? (Frz F S γ W) S.get γ (tupD ds) v := by
  obtain ⟨vs, k7, hrd⟩ := fin_run rel h
  have hrun : (results fn a.tmps).run P W = .ok (if h : vs.toArray.size = 1 then vs.toArray[0] else .tuple vs.toArray) W := by
    have e : results fn a.tmps = (do
        let vs ← fn.results.mapM (resOne a.tmps)
        pure (if h : vs.size = 1 then vs[0] else .tuple vs)) := rfl
    rw [e, Sem.run_bind, Array.mapM_eq_mapM_toList, Sem.run_map, k7]
    rfl
  refine ⟨_, hrun, ?_⟩
  rcases tupD_cases ds with ⟨d, e1, e2⟩ | ⟨e1, e2⟩
  · rw [e1] at hrd
    simp only [RepDs] at hrd
    obtain ⟨v, r, rfl, h1, rfl⟩ := hrd
    rw [e2]
    simpa using h1
  · rw [e1]
    have hne : vs.toArray.size ≠ 1 := fun h => by
      match vs, h with
      | [v], _ =>
        cases ds with
        | nil => simp [RepDs] at hrd
        | cons d r =>
          simp only [RepDs] at hrd
          obtain ⟨v', r', h1, _, h2⟩ := hrd
          simp only [List.cons.injEq] at h1
          obtain ⟨_, rfl⟩ := h1
          cases r with
          | nil => exact e2 d rfl
          | cons _ _ => simp [RepDs] at h2
    rw [dif_neg hne]
    simp only [RepD]
    exact ⟨vs, rfl, hrd⟩

theorem inl_ok {cfg : Cfg} (hC : CfgOK P cfg) {n : FuncId} {fn : Func} {c : Code} (h1 : P.funcs[n]? = some fn) (h2 : (fn.name == "runtime.NumGoroutine") = false) (h3 : fn.body = some c) (hc : PiecesOK P fn.ntmps cfg c) : InlOK P n (inlF cfg fn.ntmps c fn.results.toList) := by
  intro α F S γ W args vs K r hp hr hb h
  refine ⟨⟨fn, h1, h2, by rw [h3]; rfl⟩, ?_⟩
  unfold inlF at h
  split at h
  · rename_i hgate
    rw [Bool.and_eq_true] at hgate
    have hl := Nat.le_of_ble_eq_true hgate.1
    have hlen := hr.length
    let F' : Fm := ⟨F.W, F.T, F.G, fn.ntmps, F.gt⟩
    have hp' : Hp F' (lt S.nx) S γ W := ⟨hp.obs, hp.inj, hp.nd, hp.trk, ⟨hp.kept.os, hp.kept.tape, hp.kept.output, hp.kept.size, hp.kept.block⟩, hp.obsB⟩
    have hslots := zip_from2 (B := lt S.nx) (tm := fun s => (vs.toArray ++ Array.replicate (fn.ntmps - vs.toArray.size) undef).getD s undef) 64 0 hr hb (fun d hd => by
      have := List.all_eq_true.1 hgate.2 d hd
      simpa using this) (fun i v hv => by
      have hi : i < vs.length := by
        rcases Nat.lt_or_ge i vs.length with h | h
        · exact h
        · rw [List.getElem?_eq_none h] at hv; cases hv
      rw [Array.getD_eq_getD_getElem?, Nat.zero_add, Array.getElem?_append_left (by simpa using hi)]
      simp only [List.getElem?_toArray, hv, Option.getD_some])
    have rel : Rel F' (lt S.nx) (zipE (List.range 64) args) S γ { tmps := vs.toArray ++ Array.replicate (fn.ntmps - vs.toArray.size) undef, defers := [] } W := by
      refine ⟨hp', fun s => ?_, rfl, ?_, fun s => ?_⟩
      · have := (hslots s).1
        rw [← List.range_eq_range'] at this
        exact this
      · simp only [Array.size_append, Array.size_replicate, List.size_toArray]
        show _ = fn.ntmps
        omega
      · have := (hslots s).2
        rw [← List.range_eq_range'] at this
        exact this
    refine calls_of_wp h1 h3 (wp_mono (den_ok (F := F') hC c hc rel h) (fun e a' W' hq => ?_))
    obtain ⟨ex, env', S', γ', k1, ⟨_, kle, kst⟩, k2, k3⟩ := hq
    have key : a'.defers = [] ∧ ∃ v, (results fn a'.tmps).run P W' = .ok v W' ∧ ∃ v' d S' γ', (Ending.returned v : Ending) = .returned v' ∧ S.nx ≤ S'.nx ∧ Stp F (lt S.nx) S γ W S' γ' W' ∧ Hp F (lt S'.nx) S' γ' W' ∧ RepD W'.cell? (Frz F S' γ' W') S'.get γ' d v' ∧ d.bnd (lt S'.nx) ∧ K d S' = some r := by
      refine ⟨k2.defers, ?_⟩
      have k4 : ∃ ds, finV cfg.P S' env' fn.results.toList = some ds ∧ K (tupD ds) S' = some r := by
        cases ex with
        | exit _ => simp at k3
        | _ =>
          simp only at k3
          cases hq : finV cfg.P S' env' fn.results.toList with
          | none => rw [hq] at k3; simp at k3
          | some ds => rw [hq] at k3; exact ⟨ds, rfl, k3⟩
      obtain ⟨ds, k5, k6⟩ := k4
      rw [hC.pg] at k5
      obtain ⟨v, hv, hrep⟩ := results_run k2 k5
      have hbd := fin_bnd k2 k5
      have hk := k2.hp
      refine ⟨v, hv, v, tupD ds, S', γ', rfl, kle, ⟨kst.hold, kst.os, kst.tape, kst.output, kst.size, kst.block, kst.trk⟩,
        ⟨hk.obs, hk.inj, hk.nd, hk.trk, ⟨hk.kept.os, hk.kept.tape, hk.kept.output, hk.kept.size, hk.kept.block⟩, hk.obsB⟩, hrep, ?_, k6⟩
      rcases tupD_cases ds with ⟨d, e1, e2⟩ | ⟨e1, e2⟩
      · rw [e2]
        rw [e1] at hbd
        exact hbd.1
      · rw [e1]
        exact hbd
    cases ex with
    | exit _ => simp at k3
    | normal =>
      have := exOf_normal k1
      subst this
      exact key
    | ret =>
      have := exOf_ret k1
      subst this
      exact key
  · cases h
/-- A callee told by a contract of its own, at objects that stay its caller's. -/
structure PI where
  n : Nat
  c : Code
  rs : List ResultVar
  L : LCtr
def inlP (P : Program) (q : PI) : Inl := fun α args S K => piece q.n q.L (writes q.c) (zipE (List.range 64) args) S fun e env S' => match e with
  | .exit _ => none
  | _ => match finV P S' env q.rs with
    | some ds => K (tupD ds) S'
    | none => none
def inlPs (P : Program) : List PI → Inl
  | [] => fun _ _ _ _ => none
  | q :: r => fun α args S K => match Nat.ble args.length q.n && args.all (fun d => !d.isGd) && (gaths S.get q.L.ins (q.L.slots.map (getE (zipE (List.range 64) args)))).isSome with
    | true => inlP P q α args S K
    | false => inlPs P r α args S K
/-- The contract holds where the function is called. -/
def PIOK (P : Program) (n : FuncId) (q : PI) : Prop := ∀ {α : Type} {F : Fm} {S : St} {γ : Gam} {W : World} {args : List D} {vs : List Value} {K : D → St → Option α} {r : α},
    Hp F (lt S.nx) S γ W → RepDs W.cell? (Frz F S γ W) S.get γ args vs → bnds (lt S.nx) args → (Nat.ble args.length q.n && args.all (fun d => !d.isGd)) = true → inlP P q α args S K = some r →
    Callable P n ∧ Calls P n vs.toArray W fun e W' => ∃ v d S' γ', e = .returned v ∧ S.nx ≤ S'.nx ∧ Stp F (lt S.nx) S γ W S' γ' W' ∧ Hp F (lt S'.nx) S' γ' W' ∧ RepD W'.cell? (Frz F S' γ' W') S'.get γ' d v ∧ d.bnd (lt S'.nx) ∧ K d S' = some r
/-- The contract is the function's. -/
def PIOK0 (P : Program) (n : FuncId) (q : PI) : Prop := ∃ fn, P.funcs[n]? = some fn ∧ (fn.name == "runtime.NumGoroutine") = false ∧ fn.body = some q.c ∧ fn.ntmps = q.n ∧ fn.results.toList = q.rs ∧ PieceOK P q.n q.c q.L
theorem inlP_ok {n : FuncId} {q : PI} (hq : PIOK0 P n q) {α : Type} {F : Fm} {S : St} {γ : Gam} {W : World} {args : List D} {vs : List Value} {K : D → St → Option α} {r : α}
    (hp : Hp F (lt S.nx) S γ W) (hr : RepDs W.cell? (Frz F S γ W) S.get γ args vs) (hb : bnds (lt S.nx) args) (hgate : (Nat.ble args.length q.n && args.all (fun d => !d.isGd)) = true) (h : inlP P q α args S K = some r) :
    Callable P n ∧ Calls P n vs.toArray W fun e W' => ∃ v d S' γ', e = .returned v ∧ S.nx ≤ S'.nx ∧ Stp F (lt S.nx) S γ W S' γ' W' ∧ Hp F (lt S'.nx) S' γ' W' ∧ RepD W'.cell? (Frz F S' γ' W') S'.get γ' d v ∧ d.bnd (lt S'.nx) ∧ K d S' = some r := by
  obtain ⟨fn, h1, h2, h3, h4, h5, hL⟩ := hq
  obtain ⟨qn, c, rs, L⟩ := q
  simp only at h3 h4 h5 hL hgate
  subst h4 h5
  refine ⟨⟨fn, h1, h2, by rw [h3]; rfl⟩, ?_⟩
  unfold inlP at h
  simp only at h
  have := ()
  · clear this
    rw [Bool.and_eq_true] at hgate
    have hl := Nat.le_of_ble_eq_true hgate.1
    have hlen := hr.length
    let F' : Fm := ⟨F.W, F.T, F.G, fn.ntmps, F.gt⟩
    have hp' : Hp F' (lt S.nx) S γ W := ⟨hp.obs, hp.inj, hp.nd, hp.trk, ⟨hp.kept.os, hp.kept.tape, hp.kept.output, hp.kept.size, hp.kept.block⟩, hp.obsB⟩
    have hslots := zip_from2 (B := lt S.nx) (tm := fun s => (vs.toArray ++ Array.replicate (fn.ntmps - vs.toArray.size) undef).getD s undef) 64 0 hr hb (fun d hd => by
      have := List.all_eq_true.1 hgate.2 d hd
      simpa using this) (fun i v hv => by
      have hi : i < vs.length := by
        rcases Nat.lt_or_ge i vs.length with h | h
        · exact h
        · rw [List.getElem?_eq_none h] at hv; cases hv
      rw [Array.getD_eq_getD_getElem?, Nat.zero_add, Array.getElem?_append_left (by simpa using hi)]
      simp only [List.getElem?_toArray, hv, Option.getD_some])
    have rel : Rel F' (lt S.nx) (zipE (List.range 64) args) S γ { tmps := vs.toArray ++ Array.replicate (fn.ntmps - vs.toArray.size) undef, defers := [] } W := by
      refine ⟨hp', fun s => ?_, rfl, ?_, fun s => ?_⟩
      · have := (hslots s).1
        rw [← List.range_eq_range'] at this
        exact this
      · simp only [Array.size_append, Array.size_replicate, List.size_toArray]
        show _ = fn.ntmps
        omega
      · have := (hslots s).2
        rw [← List.range_eq_range'] at this
        exact this
    refine calls_of_wp h1 h3 (wp_mono (piece_ok (F := F') hL rel h) (fun e a' W' hq => ?_))
    obtain ⟨ex, env', S', γ', k1, ⟨_, kle, kst⟩, k2, k3⟩ := hq
    have key : a'.defers = [] ∧ ∃ v, (results fn a'.tmps).run P W' = .ok v W' ∧ ∃ v' d S' γ', (Ending.returned v : Ending) = .returned v' ∧ S.nx ≤ S'.nx ∧ Stp F (lt S.nx) S γ W S' γ' W' ∧ Hp F (lt S'.nx) S' γ' W' ∧ RepD W'.cell? (Frz F S' γ' W') S'.get γ' d v' ∧ d.bnd (lt S'.nx) ∧ K d S' = some r := by
      refine ⟨k2.defers, ?_⟩
      have k4 : ∃ ds, finV P S' env' fn.results.toList = some ds ∧ K (tupD ds) S' = some r := by
        cases ex with
        | exit _ => simp at k3
        | _ =>
          simp only at k3
          cases hq : finV P S' env' fn.results.toList with
          | none => rw [hq] at k3; simp at k3
          | some ds => rw [hq] at k3; exact ⟨ds, rfl, k3⟩
      obtain ⟨ds, k5, k6⟩ := k4
      obtain ⟨v, hv, hrep⟩ := results_run k2 k5
      have hbd := fin_bnd k2 k5
      have hk := k2.hp
      refine ⟨v, hv, v, tupD ds, S', γ', rfl, kle, ⟨kst.hold, kst.os, kst.tape, kst.output, kst.size, kst.block, kst.trk⟩,
        ⟨hk.obs, hk.inj, hk.nd, hk.trk, ⟨hk.kept.os, hk.kept.tape, hk.kept.output, hk.kept.size, hk.kept.block⟩, hk.obsB⟩, hrep, ?_, k6⟩
      rcases tupD_cases ds with ⟨d, e1, e2⟩ | ⟨e1, e2⟩
      · rw [e2]
        rw [e1] at hbd
        exact hbd.1
      · rw [e1]
        exact hbd
    cases ex with
    | exit _ => simp at k3
    | normal =>
      have := exOf_normal k1
      subst this
      exact key
    | ret =>
      have := exOf_ret k1
      subst this
      exact key
theorem inlPs_ok {n : FuncId} : ∀ {l : List PI}, (∀ q ∈ l, PIOK P n q) → InlOK P n (inlPs P l)
  | [], _ => fun α F S γ W args vs K r hp hr hb h => by simp [inlPs] at h
  | q :: l, hl => fun α F S γ W args vs K r hp hr hb h => by
    simp only [inlPs] at h
    split at h
    · rename_i hg
      rw [Bool.and_eq_true] at hg
      exact hl q List.mem_cons_self hp hr hb hg.1 h
    · exact inlPs_ok (fun q' h' => hl q' (List.mem_cons_of_mem _ h')) α F S γ W args vs K r hp hr hb h

/-! ### A function's surroundings -/
def fnOf : List (Nat × Ctr) → FuncId → List Ctr
  | [], _ => []
  | (k, c) :: r, n => match Nat.beq k n with
    | true => [c]
    | false => fnOf r n
def lpOf : List (Nat × LCtr) → Nat → Option LCtr
  | [], _ => none
  | (k, c) :: r, n => match Nat.beq k n with
    | true => some c
    | false => lpOf r n
def inOf (P : Program) : List (Nat × List PI) → FuncId → Option Inl
  | [], _ => none
  | (k, c) :: r, n => match Nat.beq k n with
    | true => some (inlPs P c)
    | false => inOf P r n
/-- A configuration by lists. -/
def fzOf : List (Nat × List Nat) → Nat → List Nat
  | [], _ => []
  | (k, c) :: r, n => match Nat.beq k n with
    | true => c
    | false => fzOf r n
def ntOf : List (Nat × Nat) → FuncId → Option Nat
  | [], _ => none
  | (k, c) :: r, n => match Nat.beq k n with
    | true => some c
    | false => ntOf r n
def cfgOf (P : Program) (fs : List (Nat × Ctr)) (ls : List (Nat × LCtr)) (is : List (Nat × List PI)) (fz : List (Nat × List Nat)) (nt : List (Nat × Nat) := []) : Cfg := ⟨P, fnOf fs, lpOf ls, inOf P is, fzOf fz, ntOf nt⟩
def NtOK (P : Program) : List (Nat × Nat) → Prop
  | [] => True
  | p :: r => NatOK P p.1 p.2 ∧ NtOK P r
def FsOK (P : Program) : List (Nat × Ctr) → Prop
  | [] => True
  | p :: r => CtrOK P p.1 p.2 ∧ FsOK P r
def PIsOK (P : Program) (n : FuncId) : List PI → Prop
  | [] => True
  | q :: r => PIOK P n q ∧ PIsOK P n r
def IsOK (P : Program) : List (Nat × List PI) → Prop
  | [] => True
  | p :: r => PIsOK P p.1 p.2 ∧ IsOK P r
theorem fnOf_ok : ∀ {l : List (Nat × Ctr)}, FsOK P l → ∀ n, ∀ c ∈ fnOf l n, CtrOK P n c
  | [], _, n, c, h => by simp [fnOf] at h
  | (k, d) :: r, hl, n, c, h => by
    simp only [fnOf] at h
    split at h
    · rename_i hk
      simp only [List.mem_singleton] at h
      subst h
      exact Nat.eq_of_beq_eq_true hk ▸ hl.1
    · exact fnOf_ok hl.2 n c h
theorem pis_mem {n : FuncId} : ∀ {l : List PI}, PIsOK P n l → ∀ q ∈ l, PIOK P n q
  | [], _, _, h => by cases h
  | p :: r, hl, q, h => by
    rcases List.mem_cons.1 h with rfl | h
    · exact hl.1
    · exact pis_mem hl.2 q h
theorem inOf_ok : ∀ {l : List (Nat × List PI)}, IsOK P l → ∀ n I, inOf P l n = some I → InlOK P n I
  | [], _, n, I, h => by simp [inOf] at h
  | (k, d) :: r, hl, n, I, h => by
    simp only [inOf] at h
    split at h
    · rename_i hk
      simp only [Option.some.injEq] at h
      subst h
      exact Nat.eq_of_beq_eq_true hk ▸ inlPs_ok (pis_mem hl.1)
    · exact inOf_ok hl.2 n I h
theorem ntOf_ok : ∀ {l : List (Nat × Nat)}, NtOK P l → ∀ n k, ntOf l n = some k → NatOK P n k
  | [], _, n, k, h => by simp [ntOf] at h
  | (q, d) :: r, hl, n, k, h => by
    simp only [ntOf] at h
    split at h
    · rename_i hk
      simp only [Option.some.injEq] at h
      subst h
      exact Nat.eq_of_beq_eq_true hk ▸ hl.1
    · exact ntOf_ok hl.2 n k h
theorem cfgOf_ok {fs : List (Nat × Ctr)} {ls : List (Nat × LCtr)} {is : List (Nat × List PI)} {fz : List (Nat × List Nat)} {nt : List (Nat × Nat)} (h1 : FsOK P fs) (h2 : IsOK P is) (h3 : NtOK P nt) : CfgOK P (cfgOf P fs ls is fz nt) := ⟨rfl, fnOf_ok h1, inOf_ok h2, ntOf_ok h3⟩
end
end Go.XD


/- An argument's reading gives a datum. -/
namespace Go.XD

/-- A struct's parts, in a row. -/
def layFs (P : Program) (L : TypeId → Option Ty) : List Field → Nat → Option Ty
  | [], _ => some .nil
  | f :: r, off => match Nat.beq f.offset off, L f.type, layFs P L r (off + P.cellsOf f.type) with
    | true, some (.st g), some c => some (appC g c)
    | true, some g, some c => some (.cons g c)
    | _, _, _ => none
/-- A type, where its cells lie as its parts tell. -/
def lay (P : Program) : Nat → TypeId → Option Ty
  | 0, _ => none
  | n + 1, t => match (match P.underlying t with
      | some .bool => some Ty.bool
      | some (.int k) => some (.int k)
      | some .string => some .str
      | some (.slice e) => match lay P n e with
        | some x => match Nat.ble 1 (P.bytesOf e) && Nat.ble 1 (P.cellsOf e) with
          | true => some (.lst x)
          | false => none
        | none => none
      | some (.struct fs) => match layFs P (lay P n) fs.toList 0 with
        | some c => some (.st c)
        | none => none
      | _ => none) with
    | some T => match Nat.beq T.cells (P.cellsOf t) with
      | true => some T
      | false => none
    | none => none
end Go.XD


/- An argument's reading gives a datum: proof. -/
namespace Go.XD

theorem rep_app {cell : Addr → Option Value} {G : Nat → Prop} : ∀ {a b : Ty} {x : a.T} {y : b.T} {f : Nat → Option Value}, RepC cell G a x f → RepC cell G b y (fun j => f (a.cells + j)) → ∃ z : (appC a b).T, RepC cell G (appC a b) z f
  | .cons a r, b, x, y, f, h1, h2 => by
    simp only [RepC] at h1
    have h3 : RepC cell G b y (fun j => f (a.cells + (r.cells + j))) := by
      refine RepC.congr (fun j _ => ?_) h2
      simp only [Ty.cells]
      rw [Nat.add_assoc]
    obtain ⟨z, hz⟩ := rep_app (f := fun j => f (a.cells + j)) h1.2 h3
    exact ⟨(x.1, z), h1.1, hz⟩
  | .nil, b, x, y, f, h1, h2 => ⟨y, RepC.congr (fun j _ => by simp [Ty.cells]) h2⟩
  | .int _, b, x, y, f, h1, h2 => ⟨(x, y), h1, h2⟩
  | .bool, b, x, y, f, h1, h2 => ⟨(x, y), h1, h2⟩
  | .str, b, x, y, f, h1, h2 => ⟨(x, y), h1, h2⟩
  | .lst _, b, x, y, f, h1, h2 => ⟨(x, y), h1, h2⟩
  | .ptr _, b, x, y, f, h1, h2 => ⟨(x, y), h1, h2⟩
  | .st _, b, x, y, f, h1, h2 => ⟨(x, y), h1, h2⟩
theorem app_cells : ∀ (a b : Ty), (appC a b).cells = a.cells + b.cells
  | .cons a r, b => by simp only [appC, Ty.cells, app_cells r b, Nat.add_assoc]
  | .nil, b => by simp [appC, Ty.cells]
  | .int _, b => rfl
  | .bool, b => rfl
  | .str, b => rfl
  | .lst _, b => rfl
  | .ptr _, b => rfl
  | .st _, b => rfl
end Go.XD


/- An argument's reading gives a datum: the theorem. -/
namespace Go.XD
open Go.WideShapes

theorem cell_lt {w : World} {a : Addr} {v : Value} (h : w.cell? a = some v) : a.block < w.heap.size := by
  rcases Nat.lt_or_ge a.block w.heap.size with h1 | h1
  · exact h1
  · unfold World.cell? at h
    rw [Array.getElem?_eq_none h1] at h
    simp at h

theorem list_of {E : Type} {Q : Nat → E → Prop} : ∀ (n : Nat), (∀ i, i < n → ∃ y, Q i y) → ∃ xs : List E, xs.length = n ∧ ∀ i y, xs[i]? = some y → Q i y
  | 0, _ => ⟨[], rfl, fun i y h => by simp at h⟩
  | n + 1, h => by
    obtain ⟨xs, h1, h2⟩ := list_of n (fun i hi => h i (by omega))
    obtain ⟨y, hy⟩ := h n (by omega)
    refine ⟨xs ++ [y], by simp [h1], fun i z hz => ?_⟩
    rcases Nat.lt_or_ge i n with hi | hi
    · rw [List.getElem?_append_left (by omega)] at hz
      exact h2 i z hz
    · rw [List.getElem?_append_right (by omega)] at hz
      have : i - xs.length = 0 := by
        rcases Nat.eq_zero_or_pos (i - xs.length) with h | h
        · exact h
        · rw [List.getElem?_eq_none (by simp; omega)] at hz
          cases hz
      rw [this] at hz
      simp only [List.getElem?_cons_zero, Option.some.injEq] at hz
      subst hz
      have : i = n := by omega
      subst this
      exact hy

section
variable {H : Type} {enc : TypeId × Value → H} {P : Program} {w : World} {sp : Nat → Bool} {held : Bool}

theorem mem_weightsAll {e : TypeId} : ∀ {l : List (DataW H)} {d : DataW H} {m : Nat}, d ∈ l → m ∈ d.weights P e → m ∈ DataW.weightsAll P e l
  | x :: r, d, m, h, k => by
    simp only [DataW.weightsAll, List.mem_append]
    rcases List.mem_cons.1 h with rfl | h
    · exact .inl k
    · exact .inr (mem_weightsAll h k)

/-- What the cells of a type read as. -/
def Reads (w : World) (T : Ty) (cs : List Value) : Prop := ∃ y : T.T, RepC w.cell? (fun b => b < w.heap.size) T y (fun j => cs[j]?)

theorem layFs_ok {L : TypeId → Option Ty} {fuel : Nat}
    (hL : ∀ t T cs x, L t = some T → DataW.trod enc P w 0 sp held fuel t cs = some x → (∀ m ∈ x.1.weights P t, m ≤ reachBytes) → Reads w T cs ∧ T.cells = P.cellsOf t) (cs : List Value) :
    ∀ (fs : List Field) (off : Nat) (C : Ty) (xs : List (DataW H × List MemPlace)), layFs P L fs off = some C → fs.length = xs.length →
      (∀ (i : Nat) (f : Field), fs[i]? = some f → DataW.trod enc P w 0 sp held fuel f.type ((cs.drop f.offset).take (P.cellsOf f.type)) = xs[i]?) →
      (∀ m ∈ DataW.weightsEach P (fs.map (·.type)) (xs.map (·.1)), m ≤ reachBytes) → ∃ y : C.T, RepC w.cell? (fun b => b < w.heap.size) C y (fun j => cs[off + j]?)
  | [], off, C, xs, h, _, _, _ => by
    simp only [layFs, Option.some.injEq] at h
    subst h
    exact ⟨(), trivial⟩
  | f :: fs, off, C, [], h, hl, _, _ => by simp at hl
  | f :: fs, off, C, x :: xs, h, hl, ht, hw => by
    have h0 := ht 0 f rfl
    simp only [List.getElem?_cons_zero] at h0
    have hr := fun C' h' => layFs_ok hL cs fs (off + P.cellsOf f.type) C' xs h' (by simpa using hl) (fun i g hg => by
      have := ht (i + 1) g (by simpa using hg)
      simpa using this) (fun m hm => hw m (by
      simp only [List.map_cons, DataW.weightsEach, List.mem_append]
      exact .inr hm))
    have hx := fun T hT => hL f.type T _ x hT h0 (fun m hm => hw m (by
      simp only [List.map_cons, DataW.weightsEach, List.mem_append]
      exact .inl hm))
    simp only [layFs] at h
    cases hb : Nat.beq f.offset off with
    | false => rw [hb] at h; simp at h
    | true =>
      have hoff := Nat.eq_of_beq_eq_true hb
      rw [hb] at h
      cases hT : L f.type with
      | none => rw [hT] at h; simp at h
      | some T =>
        cases hc : layFs P L fs (off + P.cellsOf f.type) with
        | none => rw [hT, hc] at h; simp at h
        | some c =>
          rw [hT, hc] at h
          obtain ⟨⟨z, hz⟩, hcell⟩ := hx T hT
          obtain ⟨y, hy⟩ := hr c hc
          have hz' : RepC w.cell? (fun b => b < w.heap.size) T z (fun j => cs[off + j]?) := by
            refine RepC.congr (fun j hj => ?_) hz
            rw [List.getElem?_take_of_lt (by omega), List.getElem?_drop, hoff]
          have hy' : RepC w.cell? (fun b => b < w.heap.size) c y (fun j => cs[off + (T.cells + j)]?) := by
            refine RepC.congr (fun j hj => ?_) hy
            rw [hcell, Nat.add_assoc]
          cases T with
          | st g =>
            simp only [Option.some.injEq] at h
            subst h
            exact rep_app (f := fun j => cs[off + j]?) (a := g) (b := c) (x := z) (y := y) hz' hy'
          | int k => simp only [Option.some.injEq] at h; subst h; exact ⟨(z, y), hz', hy'⟩
          | bool => simp only [Option.some.injEq] at h; subst h; exact ⟨(z, y), hz', hy'⟩
          | str => simp only [Option.some.injEq] at h; subst h; exact ⟨(z, y), hz', hy'⟩
          | lst e => simp only [Option.some.injEq] at h; subst h; exact ⟨(z, y), hz', hy'⟩
          | ptr e => simp only [Option.some.injEq] at h; subst h; exact ⟨(z, y), hz', hy'⟩
          | nil => simp only [Option.some.injEq] at h; subst h; exact ⟨(z, y), hz', hy'⟩
          | cons a b => simp only [Option.some.injEq] at h; subst h; exact ⟨(z, y), hz', hy'⟩

theorem reach47 : reachBytes ≤ 140737488355328 := by decide

theorem read_ok : ∀ (n : Nat) (t : TypeId) (T : Ty) (fuel : Nat) (cs : List Value) (x : DataW H × List MemPlace), lay P n t = some T → DataW.trod enc P w 0 sp held fuel t cs = some x →
    (∀ m ∈ x.1.weights P t, m ≤ reachBytes) → Reads w T cs ∧ T.cells = P.cellsOf t
  | 0, _, _, _, _, _, h, _, _ => by simp [lay] at h
  | n + 1, t, T, fuel, cs, x, h, ht, hw => by
    simp only [lay] at h
    split at h
    case h_2 => cases h
    rename_i T' hT'
    split at h
    case h_2 => cases h
    rename_i hb
    simp only [Option.some.injEq] at h
    subst h
    have hcells := Nat.eq_of_beq_eq_true hb
    refine ⟨?_, hcells⟩
    cases hu : P.underlying t with
    | none => rw [hu] at hT'; simp at hT'
    | some u =>
      rw [hu] at hT'
      cases u with
      | bool =>
        simp only [Option.some.injEq] at hT'
        subst hT'
        obtain ⟨b, rfl, _⟩ := DataW.trod_bool hu ht
        exact ⟨b, rfl⟩
      | int k =>
        simp only [Option.some.injEq] at hT'
        subst hT'
        obtain ⟨m, rfl, _, hwf⟩ := DataW.trod_int hu ht
        simp only [Lit.wf, Bool.and_eq_true, decide_eq_true_eq] at hwf
        exact ⟨m, rfl, hwf⟩
      | string =>
        simp only [Option.some.injEq] at hT'
        subst hT'
        obtain ⟨s, rfl, rfl, _⟩ := DataW.trod_string hu ht
        refine ⟨s, rfl, ?_⟩
        have := hw s.data.toList.length (by simp [DataW.weights])
        have h1 : s.data.toList.length = s.size := Array.length_toList
        have := reach47
        omega
      | slice e =>
        simp only at hT'
        cases hE : lay P n e with
        | none => rw [hE] at hT'; simp at hT'
        | some E =>
          rw [hE] at hT'
          simp only at hT'
          split at hT'
          case h_2 => cases hT'
          rename_i hbc
          simp only [Option.some.injEq] at hT'
          subst hT'
          rw [Bool.and_eq_true] at hbc
          have hb1 := Nat.le_of_ble_eq_true hbc.1
          have hc1 := Nat.le_of_ble_eq_true hbc.2
          rcases DataW.trod_slice hu ht with ⟨rfl, _⟩ | ⟨a, len, cap, elems, rest, m, _, rfl, rfl, _, hle, _, hlen, hel, _, _⟩
          · exact ⟨([] : List E.T), none, 0, rfl, Nat.le_refl _, by simp, fun h => absurd rfl h⟩
          · have hwl : len ≤ 140737488355328 := by
              have := hw ((elems.length + rest.length) * P.bytesOf e) (by simp [DataW.weights, hu])
              have h2 : elems.length ≤ (elems.length + rest.length) * P.bytesOf e := Nat.le_trans (Nat.le_add_right _ _) (Nat.le_mul_of_pos_right _ hb1)
              have := reach47
              omega
            have each : ∀ i, i < len → ∃ (y : E.T), E.cells = P.cellsOf e ∧ a.block < w.heap.size ∧ RepC w.cell? (fun b => b < w.heap.size) E y (fun j => w.cell? (a.add (i * E.cells + j))) := fun i hi => by
              have h1 := hel i hi
              rw [List.getElem?_eq_getElem (by omega)] at h1
              obtain ⟨csi, h2, h3⟩ := Option.bind_eq_some_iff.1 h1
              obtain ⟨⟨y, hy⟩, hce⟩ := read_ok n e E m csi _ hE h3 (fun q hq => hw q (by
                simp only [DataW.weights, hu, List.mem_cons, List.mem_append]
                refine .inr (.inl (mem_weightsAll (d := (elems[i]'(by omega)).1) ?_ hq))
                exact List.mem_map.2 ⟨_, List.getElem_mem _, rfl⟩))
              obtain ⟨_, h4, h5⟩ := World.cells?_some h2
              refine ⟨y, hce, ?_, RepC.congr (fun j hj => ?_) hy⟩
              · have h6 := h5 0 (by omega)
                rw [List.getElem?_eq_getElem (by omega)] at h6
                have := cell_lt h6
                simpa only [add_block] using this
              · rw [hce] at hj ⊢
                rw [← h5 j hj, add_add]
            obtain ⟨ys, hys, hys2⟩ := list_of (Q := fun i (y : E.T) => E.cells = P.cellsOf e ∧ a.block < w.heap.size ∧ RepC w.cell? (fun b => b < w.heap.size) E y (fun j => w.cell? (a.add (i * E.cells + j)))) len each
            refine ⟨ys, some a, cap, by rw [hys]; rfl, by omega, by omega, fun hne => ⟨a, rfl, trivial, ?_, fun i y hy => (hys2 i y hy).2.2⟩⟩
            cases ys with
            | nil => exact absurd rfl hne
            | cons y r => exact (hys2 0 y rfl).2.1
      | struct fs =>
        simp only at hT'
        cases hC : layFs P (lay P n) fs.toList 0 with
        | none => rw [hC] at hT'; simp at hT'
        | some C =>
          rw [hC] at hT'
          simp only [Option.some.injEq] at hT'
          subst hT'
          obtain ⟨xs, m, _, rfl, _, hxl, hfs⟩ := DataW.trod_struct hu ht
          have := layFs_ok (enc := enc) (sp := sp) (held := held) (fuel := m) (L := lay P n) (fun t T cs x h1 h2 h3 => read_ok n t T m cs x h1 h2 h3) cs fs.toList 0 C xs hC (by simpa using hxl.symm)
            (fun i f hf => hfs i f (by simpa using hf)) (fun q hq => hw q (by simp only [DataW.weights, hu]; exact hq))
          obtain ⟨y, hy⟩ := this
          exact ⟨y, RepC.congr (fun j _ => by simp) hy⟩
      | _ => simp at hT'

/-- An argument. -/
theorem arg_ok {n : Nat} {t : TypeId} {T : Ty} {v : Value} {d : DataW H} {ps : List MemPlace} {r : Reach} {b0 : Nat} (hT : lay P n t = some T) (hv : Value.okWide P w r b0 t v) (hd : DataW.Trod enc P w 0 sp held t v d ps)
    (hw : ∀ m ∈ d.weights P t, m ≤ reachBytes) : ∃ y : T.T, RepV w.cell? (fun b => b < w.heap.size) T y v := by
  obtain ⟨fuel, hf⟩ := hd
  obtain ⟨⟨y, hy⟩, hc⟩ := read_ok n t T fuel _ _ hT hf hw
  have one : T.cells = 1 → v.cells.toList = [v] → T.isSt = false → ∃ y : T.T, RepV w.cell? (fun b => b < w.heap.size) T y v := fun h1 h2 h3 => by
    refine ⟨y, ?_⟩
    unfold RepV
    rw [if_neg (by simp [h3])]
    refine RepC.congr (fun j hj => ?_) hy
    have : j = 0 := by omega
    subst this
    rw [h2]
    rfl
  cases n with
  | zero => simp [lay] at hT
  | succ n =>
    simp only [lay] at hT
    split at hT
    case h_2 => cases hT
    rename_i T' hT'
    split at hT
    case h_2 => cases hT
    simp only [Option.some.injEq] at hT
    subst hT
    cases hu : P.underlying t with
    | none => rw [hu] at hT'; simp at hT'
    | some u =>
      rw [hu] at hT'
      cases u with
      | bool =>
        simp only [Option.some.injEq] at hT'
        subst hT'
        obtain ⟨b, rfl⟩ := okWide_bool hu hv
        exact one rfl rfl rfl
      | int k =>
        simp only [Option.some.injEq] at hT'
        subst hT'
        obtain ⟨b, rfl⟩ := okWide_int hu hv
        exact one rfl rfl rfl
      | string =>
        simp only [Option.some.injEq] at hT'
        subst hT'
        obtain ⟨b, rfl⟩ := okWide_string hu hv
        exact one rfl rfl rfl
      | slice e =>
        simp only at hT'
        cases hE : lay P n e with
        | none => rw [hE] at hT'; simp at hT'
        | some E =>
          rw [hE] at hT'
          simp only at hT'
          split at hT'
          case h_2 => cases hT'
          simp only [Option.some.injEq] at hT'
          subst hT'
          obtain ⟨a, l, c, rfl⟩ := okWide_slice hu hv
          exact one rfl rfl rfl
      | struct fs =>
        simp only at hT'
        cases hC : layFs P (lay P n) fs.toList 0 with
        | none => rw [hC] at hT'; simp at hT'
        | some C =>
          rw [hC] at hT'
          simp only [Option.some.injEq] at hT'
          subst hT'
          simp only [Value.okWide, hu] at hv
          obtain ⟨cs, rfl, h1, _⟩ := hv
          refine ⟨y, ?_⟩
          unfold RepV
          rw [if_pos (show (Ty.st C).isSt = true from rfl)]
          refine ⟨cs, rfl, by rw [hc, h1], ?_⟩
          refine RepC.congr (fun j _ => ?_) hy
          simp [Value.cells]
      | _ => simp at hT'

def layA (P : Program) (n : Nat) : List TypeId → Option Ty
  | [] => some .nil
  | t :: r => match lay P n t, layA P n r with
    | some T, some R => some (.cons T R)
    | _, _ => none

theorem args_ok {n : Nat} {r : Reach} {b0 : Nat} : ∀ {ts : List TypeId} {A : Ty} {vs : List Value} {ds : List (DataW H)} {ps : List MemPlace}, layA P n ts = some A → (∀ (j : Nat) t v, ts[j]? = some t → vs[j]? = some v → Value.okWide P w r b0 t v) →
    DataW.TrodAll enc P w 0 sp held ts vs ds ps → (∀ m ∈ DataW.weightsEach P ts ds, m ≤ reachBytes) → ∃ x : A.T, RepA w.cell? (fun b => b < w.heap.size) A x vs
  | [], A, [], [], ps, hA, _, h, _ => by
    simp only [layA, Option.some.injEq] at hA
    subst hA
    exact ⟨(), by simp only [RepA]⟩
  | t :: ts, A, v :: vs, d :: ds, ps, hA, hv, h, hw => by
    simp only [layA] at hA
    cases hT : lay P n t with
    | none => rw [hT] at hA; simp at hA
    | some T =>
      cases hR : layA P n ts with
      | none => rw [hT, hR] at hA; simp at hA
      | some R =>
        rw [hT, hR] at hA
        simp only [Option.some.injEq] at hA
        subst hA
        simp only [DataW.TrodAll] at h
        obtain ⟨p, q, h1, h2, _⟩ := h
        obtain ⟨y, hy⟩ := arg_ok hT (hv 0 t v rfl rfl) h1 (fun m hm => hw m (by simp only [DataW.weightsEach, List.mem_append]; exact .inl hm))
        obtain ⟨x, hx⟩ := args_ok hR (fun j t v h1 h2 => hv (j + 1) t v (by simpa using h1) (by simpa using h2)) h2 (fun m hm => hw m (by simp only [DataW.weightsEach, List.mem_append]; exact .inr hm))
        exact ⟨(y, x), by simp only [RepA]; exact ⟨v, vs, rfl, hy, hx⟩⟩
  | [], _, _ :: _, _, _, _, _, h, _ => by simp [DataW.TrodAll] at h
  | [], _, [], _ :: _, _, _, _, h, _ => by simp [DataW.TrodAll] at h
  | _ :: _, _, [], _, _, _, _, h, _ => by simp [DataW.TrodAll] at h
  | _ :: _, _, _ :: _, [], _, _, _, h, _ => by simp [DataW.TrodAll] at h

/-- The arguments read behind the call as ahead. -/
theorem args_back {ts : List TypeId} {W W' : World} (hl : laidOutB P = true) (hr : (ts.all fun t => P.readableRec t && decide (t < P.types.size)) = true) (hb : Go.RowKit.Below W.heap.size W W') :
    ∀ {vs : List Value} {ds : List (DataW H)} {ps : List MemPlace}, DataW.TrodAll enc P W 0 (fun _ => true) true ts vs ds ps → DataW.TrodAll enc P W' 0 (fun b => decide (b < W.heap.size)) true ts vs ds ps := by
  induction ts with
  | nil =>
    intro vs ds ps h
    cases vs <;> cases ds <;> simp [DataW.TrodAll] at h ⊢
    exact h
  | cons t ts ih =>
    intro vs ds ps h
    simp only [List.all_cons, Bool.and_eq_true, decide_eq_true_eq] at hr
    cases vs with
    | nil => simp [DataW.TrodAll] at h
    | cons v vs =>
      cases ds with
      | nil => simp [DataW.TrodAll] at h
      | cons d ds =>
        simp only [DataW.TrodAll] at h ⊢
        obtain ⟨p, q, h1, h2, h3⟩ := h
        refine ⟨p, q, Go.RowKit.Below.trod hl hr.1.1 hr.1.2 h1 hb (fun x hx => ?_), ih hr.2 h2, h3⟩
        obtain ⟨m, hm⟩ := h1
        exact DataW.trod_lt m _ _ _ hm x hx
end
end Go.XD


/- A law's row out of its contract. -/
namespace Go.XD
open Go.ChangeShapes

theorem trodAll_len {H : Type} {enc : TypeId × Value → H} {P : Program} {w : World} {base : Nat} {sp : Nat → Bool} {held : Bool} : ∀ {ts : List TypeId} {vs : List Value} {ds : List (DataW H)} {ps : List MemPlace}, DataW.TrodAll enc P w base sp held ts vs ds ps → ds.length = ts.length
  | [], [], [], _, _ => rfl
  | t :: ts, v :: vs, d :: ds, ps, h => by
    simp only [DataW.TrodAll] at h
    obtain ⟨_, _, _, h2, _⟩ := h
    simp only [List.length_cons, trodAll_len h2]
  | [], [], _ :: _, _, h => by simp [DataW.TrodAll] at h
  | [], _ :: _, _, _, h => by simp [DataW.TrodAll] at h
  | _ :: _, [], _, _, h => by simp [DataW.TrodAll] at h
  | _ :: _, _ :: _, [], _, h => by simp [DataW.TrodAll] at h

theorem law_ok {C : Checked} {os : Os} {H : Type} {enc : TypeId × Value → H} (started : os.Started) {f : FuncId} {fn : Func} {s : ChangeSpec} {conds : List PathCond} {ins : Ty} {g : ins.T → Option ((Ty.cons .bool .nil).T)} {rt : TypeId}
    (own : ownKnob C.prog.godebug = none) (noInit : C.prog.inits.idxOf? f = none) (hfn : C.prog.funcs[f]? = some fn)
    (witness : ∃ (w : World) (tape : Tape) (i : Input), w.os = os ∧ (w.forCall tape i).Shaped C.prog ∧ i.vars = [] ∧ Input.okWide C.prog (w.forCall tape i) .any w.heap.size f i ∧
      s.pre6 enc C.prog fn conds false (w.forCall tape i).memory i.args ∧ Assume.holds {} C.prog (lone (Frame.enter C.prog f i.args .normal) [] (w.forCall tape i)))
    (hvars : s.vars = []) (hspec : ∀ (ds : List (DataW H)), ds.length = fn.params.size → s.fn H ds = { results := [.lit (.bool true)], args := ds })
    (hres : fn.resultTypes = #[rt]) (hrt : C.prog.underlying rt = some .bool) (hA : layA C.prog 12 fn.params.toList = some ins)
    (hctr : CtrOK C.prog f ⟨ins, .cons .bool .nil, g, none⟩) (htrue : ∀ x, g x = some (true, ()))
    (hl : laidOutB C.prog = true) (hr : (fn.params.toList.all fun t => C.prog.readableRec t && decide (t < C.prog.types.size)) = true) :
    ReturnsInHanded {} C os f .any (s.pre6 enc C.prog fn conds false) (s.post enc C.prog fn false true false false) := by
  refine returnsInHanded_of_change_sized (C := C) own started noInit hfn witness ?_
  intro W base args ds gs before hval hW hcnd hsz _
  have hW' := hW
  obtain ⟨p, q, hA0, hV, rfl, hfz, hnd⟩ := hW
  rw [hvars] at hV
  have hgs : gs = [] ∧ q = [] := by cases gs <;> simp [DataW.TrodVars] at hV; exact ⟨rfl, hV⟩
  obtain ⟨rfl, rfl⟩ := hgs
  have hlen := (trodAll_len hA0)
  have hw : ∀ m ∈ DataW.weightsEach C.prog fn.params.toList ds, m ≤ reachBytes := fun m hm => by
    have e : s.plain.varTypes C.prog = [] := by simp [DataSpec.varTypes, ChangeSpec.plain, hvars]
    rw [e, List.append_nil, List.append_nil] at hsz
    have := List.all_eq_true.1 hsz m hm
    simpa using this
  obtain ⟨x, hx⟩ := args_ok (enc := enc) (w := W) hA (fun j t v h1 h2 => hval j t v (by simpa using h1) (by simpa using h2)) hA0 hw
  refine (hctr.2 x _ (htrue x) W (fun b => b < W.heap.size) args.toList (fun b h => h) hx).mono fun e W' h => ?_
  obtain ⟨v, rfl, hv, bel⟩ := h
  have hv' : v = .bool true := by
    simp only [RepR, retD, resD, tupD, RepD, RepV] at hv
    rw [if_neg (by simp [Ty.isSt])] at hv
    simpa [RepC] using hv
  subst hv'
  refine ⟨_, rfl, ds, [], _, [], p, [], hW', ?_, ?_, ?_, bel.frame _, fun h => by cases h⟩
  · rw [hspec _ (by simpa using hlen), hres]
    exact trodAll_mk1 (Go.RowKit.shut_bool hrt true)
  · rw [List.append_nil, hspec _ (by simpa using hlen)]
    exact args_back hl hr bel hA0
  · rw [hvars, hspec _ (by simpa using hlen)]
    rfl
end Go.XD


/- Pieces of a function, one behind the other. -/
namespace Go.XD

/-- The parts of code under a number. -/
def allAt : Code → Nat → List Code
  | .seq a b, k => allAt a k ++ allAt b k
  | .cond c a b, k => (match c with
      | .tmp s => match Nat.beq (ckey s a b) k with
        | true => [.cond c a b]
        | false => []
      | _ => []) ++ (allAt a k ++ allAt b k)
  | .block _ c, k => allAt c k
  | .scope c, k => allAt c k
  | .loop c, k => (match Nat.beq (2 * firstReg c) k with
      | true => [.loop c]
      | false => []) ++ allAt c k
  | _, _ => []
def at1 (c : Code) (k : Nat) : Code := match allAt c k with
  | [d] => d
  | _ => .skip
def one1 (c : Code) (k : Nat) : Bool := match allAt c k with
  | [_] => true
  | _ => false
def unloop : Code → Code
  | .loop c => c
  | c => c
def isLoop : Code → Bool
  | .loop _ => true
  | _ => false
theorem at1_mem {c : Code} {k : Nat} (h : one1 c k = true) : allAt c k = [at1 c k] := by
  unfold one1 at h
  unfold at1
  split at h
  · rename_i d e; rw [e]
  · cases h
theorem loop_eq {c : Code} (h : isLoop c = true) : c = .loop (unloop c) := by
  cases c <;> simp [isLoop] at h
  rfl
theorem allAt_sub : ∀ {c d e : Code} {k k' : Nat}, d ∈ allAt c k' → e ∈ allAt d k → e ∈ allAt c k
  | .seq a b, d, e, k, k', h, h' => by
    simp only [allAt, List.mem_append] at h ⊢
    rcases h with h | h
    · exact .inl (allAt_sub h h')
    · exact .inr (allAt_sub h h')
  | .cond o a b, d, e, k, k', h, h' => by
    simp only [allAt, List.mem_append] at h
    rcases h with h | h | h
    · cases o with
      | tmp s =>
        simp only at h
        split at h
        · simp only [List.mem_singleton] at h
          subst h
          exact h'
        · cases h
      | _ => simp at h
    · simp only [allAt, List.mem_append]
      exact .inr (.inl (allAt_sub h h'))
    · simp only [allAt, List.mem_append]
      exact .inr (.inr (allAt_sub h h'))
  | .block _ c, d, e, k, k', h, h' => by
    simp only [allAt] at h ⊢
    exact allAt_sub h h'
  | .scope c, d, e, k, k', h, h' => by
    simp only [allAt] at h ⊢
    exact allAt_sub h h'
  | .loop c, d, e, k, k', h, h' => by
    simp only [allAt, List.mem_append] at h
    rcases h with h | h
    · split at h
      · simp only [List.mem_singleton] at h
        subst h
        exact h'
      · cases h
    · simp only [allAt, List.mem_append]
      exact .inr (allAt_sub h h')
  | .skip, _, _, _, _, h, _ => by simp [allAt] at h
  | .region _ _ _, _, _, _, _, h, _ => by simp [allAt] at h
  | .rangeFunc _ _ _ _, _, _, _, _, h, _ => by simp [allAt] at h
  | .exit _, _, _, _, _, h, _ => by simp [allAt] at h
  | .label _, _, _, _, _, h, _ => by simp [allAt] at h
  | .goto _, _, _, _, _, h, _ => by simp [allAt] at h
  | .ret, _, _, _, _, h, _ => by simp [allAt] at h
  | .refuse _, _, _, _, _, h, _ => by simp [allAt] at h

section
variable {P : Program}

/-- The contracts of a function's pieces hold. -/
def LsOK (P : Program) (n : Nat) (c : Code) : List (Nat × LCtr) → Prop
  | [] => True
  | p :: r => (∀ e ∈ allAt c p.1, PieceOK P n e p.2) ∧ LsOK P n c r
theorem ls_at {n : Nat} {c : Code} : ∀ {ls : List (Nat × LCtr)} {k : Nat} {L : LCtr}, LsOK P n c ls → lpOf ls k = some L → ∀ e ∈ allAt c k, PieceOK P n e L
  | [], _, _, _, h, _, _ => by simp [lpOf] at h
  | (q, M) :: r, k, L, hl, h, e, he => by
    simp only [lpOf] at h
    split at h
    · rename_i hk
      have hk := Nat.eq_of_beq_eq_true hk
      subst hk
      simp only [Option.some.injEq] at h
      subst h
      exact hl.1 e he
    · exact ls_at hl.2 h e he
theorem pieces_of {n : Nat} {fs : List (Nat × Ctr)} {ls : List (Nat × LCtr)} {is : List (Nat × List PI)} {fz : List (Nat × List Nat)} {nt : List (Nat × Nat)} : ∀ {c : Code}, (∀ k L, lpOf ls k = some L → ∀ e ∈ allAt c k, PieceOK P n e L) → PiecesOK P n (cfgOf P fs ls is fz nt) c
  | .seq a b, h => ⟨pieces_of fun k L hk e he => h k L hk e (by simp only [allAt, List.mem_append]; exact .inl he), pieces_of fun k L hk e he => h k L hk e (by simp only [allAt, List.mem_append]; exact .inr he)⟩
  | .cond o a b, h => ⟨pieces_of fun k L hk e he => h k L hk e (by simp only [allAt, List.mem_append]; exact .inr (.inl he)), pieces_of fun k L hk e he => h k L hk e (by simp only [allAt, List.mem_append]; exact .inr (.inr he)), fun s hs L hL => by
      subst hs
      exact h _ L hL _ (by simp only [allAt, List.mem_append, Nat.beq_refl]; exact .inl (List.mem_singleton.2 rfl))⟩
  | .block _ c, h => pieces_of (c := c) h
  | .scope c, h => pieces_of (c := c) h
  | .loop c, h => fun L hL => h _ L hL _ (by simp only [allAt, List.mem_append, Nat.beq_refl]; exact .inl (List.mem_singleton.2 rfl))
  | .skip, _ => trivial
  | .region _ _ _, _ => trivial
  | .rangeFunc _ _ _ _, _ => trivial
  | .exit _, _ => trivial
  | .label _, _ => trivial
  | .goto _, _ => trivial
  | .ret, _ => trivial
  | .refuse _, _ => trivial
theorem pieces_all {n : Nat} {c : Code} {fs : List (Nat × Ctr)} {ls : List (Nat × LCtr)} {is : List (Nat × List PI)} {fz : List (Nat × List Nat)} {nt : List (Nat × Nat)} (h : LsOK P n c ls) : PiecesOK P n (cfgOf P fs ls is fz nt) c := pieces_of fun k L hk e he => ls_at h hk e he
theorem pieces_sub {n : Nat} {c d : Code} {k' : Nat} {fs : List (Nat × Ctr)} {ls : List (Nat × LCtr)} {is : List (Nat × List PI)} {fz : List (Nat × List Nat)} {nt : List (Nat × Nat)} (h : LsOK P n c ls) (hd : d ∈ allAt c k') : PiecesOK P n (cfgOf P fs ls is fz nt) d := pieces_of fun k L hk e he => ls_at h hk e (allAt_sub hd he)
theorem pieces_body {n : Nat} {c d : Code} {k' : Nat} {fs : List (Nat × Ctr)} {ls : List (Nat × LCtr)} {is : List (Nat × List PI)} {fz : List (Nat × List Nat)} {nt : List (Nat × Nat)} (h : LsOK P n c ls) (hd : .loop d ∈ allAt c k') : PiecesOK P n (cfgOf P fs ls is fz nt) d := pieces_of fun k L hk e he => ls_at h hk e (allAt_sub hd (by
  simp only [allAt, List.mem_append]
  exact .inr he))

/-- A join, as a piece. -/
theorem join_at {n : Nat} {c : Code} {k : Nat} {L : LCtr} {fs : List (Nat × Ctr)} {ls : List (Nat × LCtr)} {is : List (Nat × List PI)} {fz : List (Nat × List Nat)} {nt : List (Nat × Nat)} (h1 : FsOK P fs) (h2 : IsOK P is) (h4 : NtOK P nt) (h3 : LsOK P n c ls) (ho : one1 c k = true) (hN : namesB L false = true)
    (hs : ∀ x, L.f x = den (cfgOf P fs ls is fz nt) n (at1 c k) (inE L x) ⟨(scat L.ins x 0).n, (scat L.ins x 0).m⟩ (coll L.outs)) : LsOK P n c ((k, L) :: ls) := by
  refine ⟨fun e he => ?_, h3⟩
  have hm := at1_mem ho
  simp only [hm, List.mem_singleton] at he
  subst he
  exact join_ok (cfgOf_ok h1 h2 h4) (pieces_sub h3 (by rw [hm]; exact List.mem_singleton.2 rfl)) hN hs
/-- A loop, as a piece. -/
theorem loop_at {n : Nat} {c : Code} {k : Nat} {L : LCtr} {fs : List (Nat × Ctr)} {ls : List (Nat × LCtr)} {is : List (Nat × List PI)} {fz : List (Nat × List Nat)} {nt : List (Nat × Nat)} (h1 : FsOK P fs) (h2 : IsOK P is) (h4 : NtOK P nt) (h3 : LsOK P n c ls) (ho : one1 c k = true) (hi : isLoop (at1 c k) = true) (hN : namesB L true = true)
    {step : (L.ins.T → Option (outT L.outs)) → L.ins.T → Option (outT L.outs)} (hf : L.f = lim step)
    (hs : ∀ g x, step g x = den (cfgOf P fs ls is fz nt) n (unloop (at1 c k)) (inE L x) ⟨(scat L.ins x 0).n, (scat L.ins x 0).m⟩ (round L g)) : LsOK P n c ((k, L) :: ls) := by
  refine ⟨fun e he => ?_, h3⟩
  have hm := at1_mem ho
  simp only [hm, List.mem_singleton] at he
  subst he
  have hl := loop_eq hi
  rw [hl]
  refine loop_ok (cfgOf_ok h1 h2 h4) (pieces_body (k' := k) h3 ?_) hN hs (fun x y h => lim_iter (by rw [← hf]; exact h))
  rw [hm, ← hl]
  exact List.mem_singleton.2 rfl
/-- A function, by data. -/
theorem fun_at {n : FuncId} {fn : Func} {c : Code} {ins out : Ty} {g : ins.T → Option out.T} {fs : List (Nat × Ctr)} {ls : List (Nat × LCtr)} {is : List (Nat × List PI)} {fz : List (Nat × List Nat)} {nt : List (Nat × Nat)} (h1 : FsOK P fs) (h2 : IsOK P is) (h4 : NtOK P nt) (hn : P.funcs[n]? = some fn) (hnm : (fn.name == "runtime.NumGoroutine") = false) (hb : fn.body = some c)
    (h3 : LsOK P fn.ntmps c ls) (hl : Nat.ble (tyLen ins) fn.ntmps = true) (hg : ∀ x, g x = body (cfgOf P fs ls is fz nt) fn c ins out x) : CtrOK P n ⟨ins, out, g, none⟩ :=
  fun_ok (cfgOf_ok h1 h2 h4) hn hnm hb hl (pieces_all h3) hg
/-- A function, at its caller's objects. -/
theorem fun_atC {n : FuncId} {fn : Func} {c : Code} {ins out : Ty} {k : Nat} {g : ins.T → Option out.T} {fs : List (Nat × Ctr)} {ls : List (Nat × LCtr)} {is : List (Nat × List PI)} {fz : List (Nat × List Nat)} {nt : List (Nat × Nat)} (h1 : FsOK P fs) (h2 : IsOK P is) (h4 : NtOK P nt) (hn : P.funcs[n]? = some fn) (hnm : (fn.name == "runtime.NumGoroutine") = false) (hb : fn.body = some c)
    (h3 : LsOK P fn.ntmps c ls) (hl : Nat.ble (tyLen ins) fn.ntmps = true) (hg : ∀ x, g x = bodyC (cfgOf P fs ls is fz nt) fn c ins out k x) : CtrOK P n ⟨ins, out, g, some k⟩ :=
  fun_okC (cfgOf_ok h1 h2 h4) hn hnm hb hl (pieces_all h3) hg
/-- A function, at its caller's objects. -/
theorem proc_at {n : FuncId} {fn : Func} {c : Code} {L : LCtr} {fs : List (Nat × Ctr)} {ls : List (Nat × LCtr)} {is : List (Nat × List PI)} {fz : List (Nat × List Nat)} {nt : List (Nat × Nat)} (h1 : FsOK P fs) (h2 : IsOK P is) (h4 : NtOK P nt) (hn : P.funcs[n]? = some fn) (hnm : (fn.name == "runtime.NumGoroutine") = false) (hb : fn.body = some c)
    (h3 : LsOK P fn.ntmps c ls) (hN : namesB L false = true) (hg : ∀ x, L.f x = den (cfgOf P fs ls is fz nt) fn.ntmps c (inE L x) ⟨(scat L.ins x 0).n, (scat L.ins x 0).m⟩ (coll L.outs)) : PIOK P n ⟨fn.ntmps, c, fn.results.toList, L⟩ :=
  fun hp hr hbd hgt h => inlP_ok ⟨fn, hn, hnm, hb, rfl, rfl, join_ok (cfgOf_ok h1 h2 h4) (pieces_all h3) hN hg⟩ hp hr hbd hgt h

/-! ### The same, of what surrounds a function -/
def codeOf (fn : Func) : Code := fn.body.getD .skip
theorem codeOf_eq {fn : Func} (h : fn.body.isSome = true) : fn.body = some (codeOf fn) := by
  unfold codeOf
  cases hb : fn.body with
  | none => rw [hb] at h; cases h
  | some c => rfl
def mkPI (fn : Func) (L : LCtr) : PI := ⟨fn.ntmps, codeOf fn, fn.results.toList, L⟩
structure FE (P : Program) where
  fs : List (Nat × Ctr)
  is : List (Nat × List PI)
  fz : List (Nat × List Nat)
  nt : List (Nat × Nat)
  h1 : FsOK P fs
  h2 : IsOK P is
  h4 : NtOK P nt
def FE.cfg (e : FE P) (ls : List (Nat × LCtr)) : Cfg := cfgOf P e.fs ls e.is e.fz e.nt
theorem join_E {n : Nat} {c : Code} (k : Nat) (L : LCtr) {ls : List (Nat × LCtr)} (e : FE P) (h3 : LsOK P n c ls) (ho : (one1 c k && namesB L false) = true)
    (hs : ∀ x, L.f x = den (e.cfg ls) n (at1 c k) (inE L x) ⟨(scat L.ins x 0).n, (scat L.ins x 0).m⟩ (coll L.outs)) : LsOK P n c ((k, L) :: ls) := by
  rw [Bool.and_eq_true] at ho
  exact join_at e.h1 e.h2 e.h4 h3 ho.1 ho.2 hs
theorem loop_E {n : Nat} {c : Code} (k : Nat) (L : LCtr) {ls : List (Nat × LCtr)} (e : FE P) (h3 : LsOK P n c ls) (ho : (one1 c k && isLoop (at1 c k) && namesB L true) = true)
    {step : (L.ins.T → Option (outT L.outs)) → L.ins.T → Option (outT L.outs)} (hf : L.f = lim step)
    (hs : ∀ g x, step g x = den (e.cfg ls) n (unloop (at1 c k)) (inE L x) ⟨(scat L.ins x 0).n, (scat L.ins x 0).m⟩ (round L g)) : LsOK P n c ((k, L) :: ls) := by
  rw [Bool.and_eq_true, Bool.and_eq_true] at ho
  exact loop_at e.h1 e.h2 e.h4 h3 ho.1.1 ho.1.2 ho.2 hf hs
theorem fun_E {n : FuncId} {fn : Func} {ins out : Ty} {g : ins.T → Option out.T} {ls : List (Nat × LCtr)} (e : FE P) (hn : P.funcs[n]? = some fn) (h3 : LsOK P fn.ntmps (codeOf fn) ls)
    (hb : (!(fn.name == "runtime.NumGoroutine") && fn.body.isSome && Nat.ble (tyLen ins) fn.ntmps) = true) (hg : ∀ x, g x = body (e.cfg ls) fn (codeOf fn) ins out x) : CtrOK P n ⟨ins, out, g, none⟩ := by
  rw [Bool.and_eq_true, Bool.and_eq_true, Bool.not_eq_true'] at hb
  exact fun_at e.h1 e.h2 e.h4 hn hb.1.1 (codeOf_eq hb.1.2) h3 hb.2 hg
theorem fun_EC {n : FuncId} {fn : Func} {ins out : Ty} {k : Nat} {g : ins.T → Option out.T} {ls : List (Nat × LCtr)} (e : FE P) (hn : P.funcs[n]? = some fn) (h3 : LsOK P fn.ntmps (codeOf fn) ls)
    (hb : (!(fn.name == "runtime.NumGoroutine") && fn.body.isSome && Nat.ble (tyLen ins) fn.ntmps) = true) (hg : ∀ x, g x = bodyC (e.cfg ls) fn (codeOf fn) ins out k x) : CtrOK P n ⟨ins, out, g, some k⟩ := by
  rw [Bool.and_eq_true, Bool.and_eq_true, Bool.not_eq_true'] at hb
  exact fun_atC e.h1 e.h2 e.h4 hn hb.1.1 (codeOf_eq hb.1.2) h3 hb.2 hg
theorem proc_E {n : FuncId} {fn : Func} {L : LCtr} {ls : List (Nat × LCtr)} (e : FE P) (hn : P.funcs[n]? = some fn) (h3 : LsOK P fn.ntmps (codeOf fn) ls)
    (hb : (!(fn.name == "runtime.NumGoroutine") && fn.body.isSome && namesB L false) = true) (hg : ∀ x, L.f x = den (e.cfg ls) fn.ntmps (codeOf fn) (inE L x) ⟨(scat L.ins x 0).n, (scat L.ins x 0).m⟩ (coll L.outs)) : PIOK P n (mkPI fn L) := by
  rw [Bool.and_eq_true, Bool.and_eq_true, Bool.not_eq_true'] at hb
  exact proc_at e.h1 e.h2 e.h4 hn hb.1.1 (codeOf_eq hb.1.2) h3 hb.2 hg
/-- A function that calls itself. -/
theorem rec_E {n : FuncId} {fn : Func} {ins out : Ty} {step : (ins.T → Option out.T) → ins.T → Option out.T} (hn : P.funcs[n]? = some fn) (hb : (!(fn.name == "runtime.NumGoroutine") && fn.body.isSome) = true)
    (h : ∀ r, CtrOK P n ⟨ins, out, r, none⟩ → CtrOK P n ⟨ins, out, step r, none⟩) : CtrOK P n ⟨ins, out, lim step, none⟩ := by
  rw [Bool.and_eq_true, Bool.not_eq_true'] at hb
  have hc : Callable P n := ⟨fn, hn, hb.1, by rw [codeOf_eq hb.2]; rfl⟩
  have key : ∀ k, CtrOK P n ⟨ins, out, iter step k, none⟩ := fun k => by
    induction k with
    | zero => exact ⟨hc, fun x y hy => by cases hy⟩
    | succ k ih => exact h _ ih
  refine ⟨hc, fun x y hy => ?_⟩
  obtain ⟨k, hk⟩ := lim_iter hy
  exact (key k).2 x y hk
/-- A procedure that calls itself. -/
theorem recP_E {n : FuncId} {fn : Func} {slots : List Nat} {ins : CP} {fix : List (Option Nat)} {keep : List Nat} {outs : List Out} {als : ins.T → Env} {step : (ins.T → Option (outT outs)) → ins.T → Option (outT outs)}
    (h : ∀ r, PIOK P n (mkPI fn ⟨slots, ins, fix, keep, outs, als, r⟩) → PIOK P n (mkPI fn ⟨slots, ins, fix, keep, outs, als, step r⟩)) : PIOK P n (mkPI fn ⟨slots, ins, fix, keep, outs, als, lim step⟩) := by
  have key : ∀ k, PIOK P n (mkPI fn ⟨slots, ins, fix, keep, outs, als, iter step k⟩) := fun k => by
    induction k with
    | zero =>
      intro α F S γ W args vs K r hp hr hbd hg hh
      unfold inlP piece mkPI at hh
      simp only [iter] at hh
      split at hh
      · split at hh
        · obtain ⟨_, hh⟩ := ckL_some hh
          cases hh
        · cases hh
      · cases hh
    | succ k ih => exact h _ ih
  intro α F S γ W args vs K r hp hr hbd hg hh
  have hh' := hh
  unfold inlP piece mkPI at hh
  simp only at hh
  split at hh
  · rename_i x e1 e2
    split at hh
    case h_2 => cases hh
    rename_i e3
    obtain ⟨hb, hh⟩ := ckL_some hh
    obtain ⟨y, hy, hk⟩ := Option.bind_eq_some_iff.1 hh
    obtain ⟨k, hk2⟩ := lim_iter hy
    refine key k hp hr hbd hg (K := K) (r := r) ?_
    unfold inlP piece mkPI
    simp only
    rw [e1, e2]
    simp only
    rw [e3]
    simp only
    rw [ckL_all hb, hk2]
    exact hk
  · cases hh
/-- The same, its surroundings told by a contract. -/
theorem recP_E2 {n : FuncId} {fn : Func} (L : LCtr) (step : (L.ins.T → Option (outT L.outs)) → L.ins.T → Option (outT L.outs))
    (h : ∀ r, PIOK P n (mkPI fn ⟨L.slots, L.ins, L.fix, L.keep, L.outs, L.als, r⟩) → PIOK P n (mkPI fn ⟨L.slots, L.ins, L.fix, L.keep, L.outs, L.als, step r⟩)) : PIOK P n (mkPI fn ⟨L.slots, L.ins, L.fix, L.keep, L.outs, L.als, lim step⟩) := recP_E h
end

/-! ### Words of the printed functions -/
/-- A check: none where it fails. -/
def ck {α : Type} (b : Bool) (x : Option α) : Option α := cond b x none
@[simp] theorem ck_true {α : Type} (x : Option α) : ck true x = x := rfl
@[simp] theorem ck_false {α : Type} (x : Option α) : ck false x = none := rfl
def roomB (n w : Nat) : Bool := decide (n * w ≤ 35184372088832)
def byteAt (s : ByteArray) (i : Int) : Int := if h : i.toNat < s.size then ((s[i.toNat]'h).toNat : Int) else 0
/-- One way out. -/
def out1 {A α : Type} (y : A ⊕ Empty) (f : A → α) : α := match y with
  | .inl x => f x
@[simp] theorem out1_inl {A α : Type} (x : A) (f : A → α) : out1 (.inl x) f = f x := rfl
def out2 {A B α : Type} (y : A ⊕ (B ⊕ Empty)) (f : A → α) (g : B → α) : α := match y with
  | .inl x => f x
  | .inr (.inl x) => g x
@[simp] theorem out2_inl {A B α : Type} (x : A) (f : A → α) (g : B → α) : out2 (.inl x) f g = f x := rfl
@[simp] theorem out2_inr {A B α : Type} (x : B) (f : A → α) (g : B → α) : out2 (.inr (.inl x)) f g = g x := rfl
def out3 {A B C α : Type} (y : A ⊕ (B ⊕ (C ⊕ Empty))) (f : A → α) (g : B → α) (h : C → α) : α := match y with
  | .inl x => f x
  | .inr (.inl x) => g x
  | .inr (.inr (.inl x)) => h x
@[simp] theorem out3_1 {A B C α : Type} (x : A) (f : A → α) (g : B → α) (h : C → α) : out3 (.inl x) f g h = f x := rfl
@[simp] theorem out3_2 {A B C α : Type} (x : B) (f : A → α) (g : B → α) (h : C → α) : out3 (.inr (.inl x)) f g h = g x := rfl
@[simp] theorem out3_3 {A B C α : Type} (x : C) (f : A → α) (g : B → α) (h : C → α) : out3 (.inr (.inr (.inl x))) f g h = h x := rfl
end Go.XD


/- What data that is read keeps within: numbers of their kinds, lengths that memory has. -/
namespace Go.XD

def sane : (t : Ty) → t.T → Prop
  | .int k, n => fits k n
  | .bool, _ => True
  | .str, s => s.size ≤ 140737488355328
  | .lst e, xs => xs.length ≤ 140737488355328 ∧ ∀ y ∈ xs, sane e y
  | .ptr f, o => ∀ x, o = some x → sane f x
  | .st g, x => sane g x
  | .nil, _ => True
  | .cons a b, x => sane a x.1 ∧ sane b x.2
theorem RepC.sane {cell : Addr → Option Value} {G : Nat → Prop} : ∀ {t : Ty} {x : t.T} {f : Nat → Option Value}, RepC cell G t x f → sane t x
  | .int _, _, _, r => r.2
  | .bool, _, _, _ => trivial
  | .str, _, _, r => r.2
  | .lst e, xs, _, r => by
    obtain ⟨a, c, h1, h2, h3, h4⟩ := r
    refine ⟨h3, fun y hy => ?_⟩
    obtain ⟨i, hi, rfl⟩ := List.getElem_of_mem hy
    obtain ⟨ad, _, _, _, h5⟩ := h4 (fun e => by rw [e] at hi; simp at hi)
    exact RepC.sane (t := e) (h5 i _ (List.getElem?_eq_getElem hi))
  | .ptr g, o, _, r => by
    intro x hx
    subst hx
    obtain ⟨ad, _, _, _, h⟩ := r
    exact RepC.sane (t := g) h
  | .st g, x, _, r => RepC.sane (t := g) (x := x) r
  | .nil, _, _, _ => trivial
  | .cons a b, x, _, r => ⟨RepC.sane (t := a) r.1, RepC.sane (t := b) r.2⟩
theorem RepV.sane {cell : Addr → Option Value} {G : Nat → Prop} {t : Ty} {x : t.T} {v : Value} (r : RepV cell G t x v) : sane t x := by
  unfold RepV at r
  split at r
  · obtain ⟨cs, _, _, h⟩ := r
    exact RepC.sane h
  · exact RepC.sane r
theorem RepA.sane {cell : Addr → Option Value} {G : Nat → Prop} : ∀ {f : Ty} {x : f.T} {vs : List Value}, RepA cell G f x vs → sane f x
  | .nil, _, _, _ => trivial
  | .cons a b, x, _, r => by
    obtain ⟨v, l, _, h1, h2⟩ := r
    exact ⟨RepV.sane h1, RepA.sane h2⟩
  | .int _, _, _, r => r.elim
  | .bool, _, _, r => r.elim
  | .str, _, _, r => r.elim
  | .lst _, _, _, r => r.elim
  | .ptr _, _, _, r => r.elim
  | .st _, _, _, r => r.elim
open Classical in
/-- A contract that speaks of what can be read alone. -/
theorem ctr_sane {P : Program} {f : FuncId} {ins out : Ty} {g : ins.T → Option out.T} (h : CtrOK P f ⟨ins, out, g, none⟩) (h' : ins.T → Option out.T) (hg : ∀ x, sane ins x → h' x = g x) : CtrOK P f ⟨ins, out, h', none⟩ :=
  ⟨h.1, fun x y hy W G args hG hA => h.2 x y (by rw [← hy]; exact (hg x hA.sane).symm) W G args hG hA⟩
/-- A law that is true of all that can be read. -/
theorem ctr_true {P : Program} {f : FuncId} {ins : Ty} {g : ins.T → Option ((Ty.cons .bool .nil).T)} (h : CtrOK P f ⟨ins, .cons .bool .nil, g, none⟩) (ht : ∀ x, sane ins x → g x = some (true, ())) : CtrOK P f ⟨ins, .cons .bool .nil, fun _ => some (true, ()), none⟩ :=
  ctr_sane h _ fun x hx => (ht x hx).symm
end Go.XD


/- Plain words: loops by an invariant, whole numbers within bounds. -/
namespace Go.XD

theorem lim_spec {A B : Type} {step : (A → Option B) → A → Option B} (Inv : A → Prop) (m : A → Nat) (spec : A → B)
    (h : ∀ g x, Inv x → (∀ x', Inv x' → m x' < m x → g x' = some (spec x')) → step g x = some (spec x)) {x : A} (hx : Inv x) : lim step x = some (spec x) := by
  have key : ∀ n x, Inv x → m x < n → ∀ k, n ≤ k → iter step k x = some (spec x) := by
    intro n
    induction n with
    | zero => intro x _ hm; omega
    | succ n ih =>
      intro x hx hm k hk
      cases k with
      | zero => omega
      | succ k =>
        simp only [iter]
        exact h _ x hx (fun x' hx' hm' => ih x' hx' (by omega) k (by omega))
  exact lim_eq (m x + 1) (fun k hk => key (m x + 1) x hx (by omega) k hk)

/-- The same, what it comes to being fixed ahead. -/
theorem lim_at {A B : Type} {step : (A → Option B) → A → Option B} {x : A} {y : B} (Inv : A → Prop) (m : A → Nat)
    (h : ∀ g x, Inv x → (∀ x', Inv x' → m x' < m x → g x' = some y) → step g x = some y) (hx : Inv x) : lim step x = some y :=
  lim_spec Inv m (fun _ => y) h hx
/-- A loop that ends, or goes on, at each round. -/
theorem lim_ex {A B : Type} {step : (A → Option B) → A → Option B} {x : A} (Inv : A → Prop) (m : A → Nat) (Q : B → Prop)
    (h : ∀ x, Inv x → (∃ y, Q y ∧ ∀ g, step g x = some y) ∨ (∃ x', Inv x' ∧ m x' < m x ∧ ∀ g, step g x = g x')) (hx : Inv x) : ∃ y, Q y ∧ lim step x = some y := by
  have key : ∀ n x, Inv x → m x < n → ∃ y, Q y ∧ ∀ k, n ≤ k → iter step k x = some y := by
    intro n
    induction n with
    | zero => intro x _ hm; omega
    | succ n ih =>
      intro x hx hm
      rcases h x hx with ⟨y, h1, h2⟩ | ⟨x', h1, h2, h3⟩
      · refine ⟨y, h1, fun k hk => ?_⟩
        cases k with
        | zero => omega
        | succ k => exact h2 _
      · obtain ⟨y, k1, k2⟩ := ih x' h1 (by omega)
        refine ⟨y, k1, fun k hk => ?_⟩
        cases k with
        | zero => omega
        | succ k =>
          simp only [iter]
          rw [h3]
          exact k2 k (by omega)
  obtain ⟨y, h1, h2⟩ := key (m x + 1) x hx (by omega)
  exact ⟨y, h1, lim_eq (m x + 1) h2⟩
theorem wrap64 {n : Int} (h1 : -9223372036854775808 ≤ n) (h2 : n ≤ 9223372036854775807) : IntKind.i64.wrap n = n := by
  show (if (true && decide (n % (18446744073709551616 : Int) ≥ 9223372036854775808)) = true then n % (18446744073709551616 : Int) - 18446744073709551616 else n % (18446744073709551616 : Int)) = n
  simp only [Bool.true_and, decide_eq_true_eq]
  split <;> omega
theorem wrap_succ {i : Nat} (h : i < 9223372036854775807) : IntKind.i64.wrap ((i : Int) + 1) = ((i + 1 : Nat) : Int) := by
  rw [wrap64 (by omega) (by omega)]
  omega
theorem inB_nat {i n : Nat} (h : i < n) : inB (i : Int) n = true := by
  simp only [inB, Bool.and_eq_true, decide_eq_true_eq]
  omega
theorem rdL_nat (t : Ty) (xs : List t.T) {i : Nat} (h : i < xs.length) : rdL t xs (i : Int) = xs[i] := by
  simp [rdL, h]
theorem rdL_in (t : Ty) (xs : List t.T) {i : Int} (h : 0 ≤ i ∧ i < xs.length) : rdL t xs i = xs[i.toNat]'(by omega) := by
  have h' : i.toNat < xs.length := by omega
  unfold rdL
  rw [List.getD_eq_getElem?_getD, List.getElem?_eq_getElem h']
  rfl
theorem roomB_ok {n w : Nat} (h : n * w ≤ 35184372088832) : roomB n w = true := by simp [roomB, h]
theorem agree_same {α : Type} (x : Option α) : agree x x = x := by simp [agree]
theorem ck_if {α : Type} (b : Bool) (x : Option α) : ck b x = if b = true then x else none := by cases b <;> rfl
theorem take_snoc {α : Type} {l : List α} {k : Nat} (h : k < l.length) : l.take (k + 1) = l.take k ++ [l[k]] := by
  rw [List.take_succ_eq_append_getElem h]
theorem dlt {k n : Nat} (h : k < n) : decide ((k : Int) < (n : Int)) = true := by simp; omega
theorem dge {k n : Nat} (h : ¬ k < n) : decide ((k : Int) < (n : Int)) = false := by simp; omega
theorem cond_or (a b : Bool) : cond a true b = (a || b) := by cases a <;> rfl
theorem cond_and (a b : Bool) : cond a b false = (a && b) := by cases a <;> rfl
end Go.XD


