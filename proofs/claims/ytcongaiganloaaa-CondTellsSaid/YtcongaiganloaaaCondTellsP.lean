/- For every input the law CondTells returns true, and its arguments read as they did: no condition. -/
import Derived.Test.YtcongaiganloaaaKe
import Derived.Test.YtcongaiganloaaaCondTellsG
set_option linter.unusedVariables false
set_option linter.unusedSimpArgs false
set_option linter.unusedSectionVars false
set_option linter.unnecessarySimpa false
set_option linter.deprecated false
set_option maxRecDepth 100000
/- Plain words: tables of whole numbers, loops that count up. -/
namespace Go.XD

/-- A loop whose rounds are told by their number. -/
theorem lim_up {A B : Type} {step : (A → Option B) → A → Option B} {y : B} (st : Nat → A) (n : Nat) (h1 : ∀ g i, i < n → step g (st i) = g (st (i + 1))) (h2 : ∀ g, step g (st n) = some y) : lim step (st 0) = some y := by
  have key : ∀ d i, i + d = n → ∀ k, d + 1 ≤ k → iter step k (st i) = some y := by
    intro d
    induction d with
    | zero =>
      intro i hi k hk
      cases k with
      | zero => omega
      | succ k =>
        simp only [iter]
        rw [show i = n by omega]
        exact h2 _
    | succ d ih =>
      intro i hi k hk
      cases k with
      | zero => omega
      | succ k =>
        simp only [iter]
        rw [h1 _ i (by omega)]
        exact ih (i + 1) (by omega) k (by omega)
  exact lim_eq (n + 1) (fun k hk => key n 0 (by omega) k hk)

theorem wrap32 {n : Int} (h1 : -2147483648 ≤ n) (h2 : n ≤ 2147483647) : IntKind.i32.wrap n = n := by
  show (if (true && decide (n % (4294967296 : Int) ≥ 2147483648)) = true then n % (4294967296 : Int) - 4294967296 else n % (4294967296 : Int)) = n
  simp only [Bool.true_and, decide_eq_true_eq]
  split <;> omega

/-- A table by a function. -/
def tab (m : Nat) (g : Nat → Int) : List Int := (List.range m).map g
@[simp] theorem tab_len (m : Nat) (g : Nat → Int) : (tab m g).length = m := by simp [tab]
theorem tab_get {m k : Nat} {g : Nat → Int} {d : Int} (h : k < m) : (tab m g).getD k d = g k := by
  simp [tab, List.getD_eq_getElem?_getD, h]
theorem tab_at {m k : Nat} {g : Nat → Int} (h : k < (tab m g).length) : (tab m g)[k] = g k := by simp [tab]
theorem tab_ext {m : Nat} {g g' : Nat → Int} (h : ∀ k, k < m → g k = g' k) : tab m g = tab m g' := by
  unfold tab
  exact List.map_congr_left fun k hk => h k (List.mem_range.1 hk)
theorem tab_set {m k : Nat} {g g' : Nat → Int} {v : Int} (hv : g' k = v) (h : ∀ j, j ≠ k → g' j = g j) : (tab m g).set k v = tab m g' := by
  apply List.ext_getElem
  · simp
  · intro i h1 h2
    rw [List.getElem_set, tab_at, tab_at]
    split
    · rename_i e; rw [← e, hv]
    · rename_i e; exact (h i (Ne.symm e)).symm
theorem tab_rep (m : Nat) (v : Int) : List.replicate m v = tab m fun _ => v := by
  apply List.ext_getElem
  · simp
  · intro i h1 h2
    rw [List.getElem_replicate, tab_at]
theorem tab_of (l : List Int) : l = tab l.length fun k => l.getD k 0 := by
  apply List.ext_getElem
  · simp
  · intro i h1 h2
    rw [tab_at, List.getD_eq_getElem?_getD, List.getElem?_eq_getElem h1]
    rfl
theorem tab_take {m k : Nat} {g : Nat → Int} (h : k ≤ m) : (tab m g).take k = tab k g := by
  apply List.ext_getElem
  · simp; omega
  · intro i h1 h2
    rw [List.getElem_take, tab_at, tab_at]
theorem tab_drop {m k : Nat} {g : Nat → Int} : (tab m g).drop k = tab (m - k) fun j => g (k + j) := by
  apply List.ext_getElem
  · simp
  · intro i h1 h2
    rw [List.getElem_drop, tab_at, tab_at]

theorem rdL_tab {q : IntKind} {m k : Nat} {g : Nat → Int} (h : k < m) : rdL (.int q) (tab m g) (k : Int) = g k := by
  unfold rdL
  rw [Int.toNat_natCast]
  exact tab_get h

/-! ### Counting -/
section
variable {α : Type}
theorem countP_take_succ {p : α → Bool} {l : List α} {i : Nat} (h : i < l.length) : (l.take (i + 1)).countP p = (l.take i).countP p + (if p l[i] then 1 else 0) := by
  rw [take_snoc h, List.countP_append, List.countP_singleton]
theorem countP_take_le {p : α → Bool} {l : List α} {i j : Nat} (h : i ≤ j) : (l.take i).countP p ≤ (l.take j).countP p := by
  have : (l.take i).Sublist (l.take j) := by
    rw [show l.take i = (l.take j).take i from by rw [List.take_take, Nat.min_eq_left h]]
    exact List.take_sublist _ _
  exact this.countP_le
theorem countP_take_len {p : α → Bool} {l : List α} {i : Nat} : (l.take i).countP p ≤ l.countP p := (List.take_sublist _ _).countP_le
/-- The k-th of the numbers that fit: just k fit ahead of it. -/
theorem range_sel {p : Nat → Bool} : ∀ {m k : Nat} (h : k < ((List.range m).filter p).length), p (((List.range m).filter p)[k]) = true ∧ ((List.range m).filter p)[k] < m ∧ ((List.range (((List.range m).filter p)[k])).filter p).length = k
  | 0, k, h => by simp at h
  | m + 1, k, h => by
    have e : (List.range (m + 1)).filter p = (List.range m).filter p ++ (if p m then [m] else []) := by
      rw [List.range_succ, List.filter_append]
      simp [List.filter_cons]
    by_cases hk : k < ((List.range m).filter p).length
    · have ih := range_sel (p := p) hk
      have e2 : ((List.range (m + 1)).filter p)[k] = ((List.range m).filter p)[k] := by
        simp only [e]
        rw [List.getElem_append_left hk]
      rw [e2]
      exact ⟨ih.1, by omega, ih.2.2⟩
    · have hp : p m = true := by
        cases hpm : p m with
        | true => rfl
        | false =>
          rw [e, hpm] at h
          simp at h
          omega
      have hk' : k = ((List.range m).filter p).length := by
        rw [e, hp] at h
        simp at h
        omega
      have e2 : ((List.range (m + 1)).filter p)[k] = m := by
        simp only [e, hp, if_true]
        rw [List.getElem_append_right (by omega)]
        simp
      rw [e2]
      exact ⟨hp, by omega, hk'.symm⟩
theorem countP_range (d : α) {p : α → Bool} {l : List α} : ∀ {i : Nat}, i ≤ l.length → (l.take i).countP p = ((List.range i).filter fun j => p (l.getD j d)).length
  | 0, _ => by simp
  | i + 1, h => by
    rw [countP_take_succ (by omega), countP_range d (by omega), List.range_succ, List.filter_append, List.length_append]
    congr 1
    have : l.getD i d = l[i] := by simp [List.getD_eq_getElem?_getD, show i < l.length by omega]
    simp only [List.filter_cons, List.filter_nil]
    rw [this]
    split <;> simp
end
theorem lim_step {A B : Type} {step : (A → Option B) → A → Option B} {x x' : A} (h : ∀ g, step g x = g x') : lim step x = lim step x' := by
  have hk : ∀ k, iter step (k + 1) x = iter step k x' := fun k => by simp only [iter]; exact h _
  have e : ∀ y, (∃ m, ∀ k, m ≤ k → iter step k x = some y) ↔ (∃ m, ∀ k, m ≤ k → iter step k x' = some y) := fun y => by
    constructor
    · rintro ⟨m, hm⟩
      exact ⟨m, fun k hk' => by rw [← hk]; exact hm (k + 1) (by omega)⟩
    · rintro ⟨m, hm⟩
      refine ⟨m + 1, fun k hk' => ?_⟩
      obtain ⟨j, rfl⟩ : ∃ j, k = j + 1 := ⟨k - 1, by omega⟩
      rw [hk]
      exact hm j (by omega)
  cases h1 : lim step x with
  | some y =>
    unfold lim at h1
    split at h1
    · rename_i hh
      obtain ⟨m, hm⟩ := (e _).1 hh.choose_spec
      simp only [Option.some.injEq] at h1
      rw [← h1]
      exact (lim_eq m hm).symm
    · cases h1
  | none =>
    cases h2 : lim step x' with
    | none => rfl
    | some y =>
      unfold lim at h2
      split at h2
      · rename_i hh
        obtain ⟨m, hm⟩ := (e _).2 hh.choose_spec
        rw [lim_eq m hm] at h1
        cases h1
      · cases h2
theorem lim_end {A B : Type} {step : (A → Option B) → A → Option B} {x : A} {y : B} (h : ∀ g, step g x = some y) : lim step x = some y :=
  lim_eq 1 fun k hk => by
    obtain ⟨j, rfl⟩ : ∃ j, k = j + 1 := ⟨k - 1, by omega⟩
    simp only [iter]
    exact h _
end Go.XD

/- Plain words: loops that fold, and may end early. -/
namespace Go.XD

/-- A fold over a list, with each one's place, that may end early. -/
def foldE {S α Y : Type} (f : Nat → S → α → Y ⊕ S) : Nat → S → List α → Y ⊕ S
  | _, s, [] => .inr s
  | i, s, a :: l => match f i s a with
    | .inl y => .inl y
    | .inr s' => foldE f (i + 1) s' l
theorem foldE_drop {S α Y : Type} (f : Nat → S → α → Y ⊕ S) {l : List α} {i : Nat} (hi : i < l.length) (s : S) : foldE f i s (l.drop i) = match f i s l[i] with
    | .inl y => .inl y
    | .inr s' => foldE f (i + 1) s' (l.drop (i + 1)) := by
  rw [List.drop_eq_getElem_cons hi]
  rfl
theorem lim_foldE {A B S α Y : Type} {step : (A → Option B) → A → Option B} (l : List α) (f : Nat → S → α → Y ⊕ S) (pack : S → Nat → A) (yes : Y → B) (out : S → B) (Inv : Nat → S → Prop)
    (h1 : ∀ g i s (hi : i < l.length), Inv i s → step g (pack s i) = match f i s l[i] with
      | .inl y => some (yes y)
      | .inr s' => g (pack s' (i + 1)))
    (hI : ∀ i s (hi : i < l.length), Inv i s → ∀ s', f i s l[i] = .inr s' → Inv (i + 1) s')
    (h2 : ∀ g s, Inv l.length s → step g (pack s l.length) = some (out s)) {s0 : S} (h0 : Inv 0 s0) :
    lim step (pack s0 0) = some (match foldE f 0 s0 l with
      | .inl y => yes y
      | .inr s => out s) := by
  have key : ∀ d i s, i + d = l.length → Inv i s → ∀ k, d + 1 ≤ k → iter step k (pack s i) = some (match foldE f i s (l.drop i) with
      | .inl y => yes y
      | .inr s => out s) := by
    intro d
    induction d with
    | zero =>
      intro i s hi hinv k hk
      cases k with
      | zero => omega
      | succ k =>
        have : i = l.length := by omega
        subst this
        simp only [iter]
        rw [h2 _ s hinv, List.drop_length]
        rfl
    | succ d ih =>
      intro i s hi hinv k hk
      cases k with
      | zero => omega
      | succ k =>
        have hil : i < l.length := by omega
        simp only [iter]
        rw [h1 _ i s hil hinv, foldE_drop f hil]
        cases hf : f i s l[i] with
        | inl y => rfl
        | inr s' => exact ih (i + 1) s' (by omega) (hI i s hil hinv s' hf) k (by omega)
  refine lim_eq (l.length + 1) (fun k hk => ?_)
  have := key l.length 0 s0 (by omega) h0 k hk
  simpa using this
/-- The same, without an end ahead. -/
def foldI {S α : Type} (f : Nat → S → α → S) : Nat → S → List α → S
  | _, s, [] => s
  | i, s, a :: l => foldI f (i + 1) (f i s a) l
theorem lim_foldI {A B S α : Type} {step : (A → Option B) → A → Option B} (l : List α) (f : Nat → S → α → S) (pack : S → Nat → A) (out : S → B) (Inv : Nat → S → Prop)
    (h1 : ∀ g i s (hi : i < l.length), Inv i s → step g (pack s i) = g (pack (f i s l[i]) (i + 1)))
    (hI : ∀ i s (hi : i < l.length), Inv i s → Inv (i + 1) (f i s l[i]))
    (h2 : ∀ g s, Inv l.length s → step g (pack s l.length) = some (out s)) {s0 : S} (h0 : Inv 0 s0) :
    lim step (pack s0 0) = some (out (foldI f 0 s0 l)) := by
  have := lim_foldE (Y := Empty) (step := step) l (fun i s a => .inr (f i s a)) pack (fun y => nomatch y) out Inv h1 (fun i s hi hinv s' e => by
    simp only [Sum.inr.injEq] at e
    exact e ▸ hI i s hi hinv) h2 h0
  rw [this]
  have e : ∀ (l : List α) (i : Nat) (s : S), foldE (Y := Empty) (fun i s a => .inr (f i s a)) i s l = .inr (foldI f i s l) := fun l => by
    induction l with
    | nil => intro i s; rfl
    | cons a l ih => intro i s; simp only [foldE, foldI]; exact ih _ _
  rw [e]
/-- Is there one? -/
theorem lim_any {A B α : Type} {step : (A → Option B) → A → Option B} (l : List α) (p : α → Bool) (pack : Nat → A) {yes no : B}
    (h1 : ∀ g i (hi : i < l.length), step g (pack i) = bif p l[i] then some yes else g (pack (i + 1)))
    (h2 : ∀ g, step g (pack l.length) = some no) : lim step (pack 0) = some (bif l.any p then yes else no) := by
  have := lim_foldE (S := Unit) (Y := Unit) (step := step) l (fun i s a => bif p a then .inl () else .inr ()) (fun _ i => pack i) (fun _ => yes) (fun _ => no) (fun _ _ => True) (fun g i s hi _ => by
    rw [h1 g i hi]
    cases p l[i] <;> rfl) (fun _ _ _ _ _ _ => trivial) (fun g s _ => h2 g) (s0 := ()) trivial
  rw [this]
  have e : ∀ (l : List α) (i : Nat), foldE (S := Unit) (Y := Unit) (fun i s a => bif p a then .inl () else .inr ()) i () l = bif l.any p then .inl () else .inr () := fun l => by
    induction l with
    | nil => intro i; rfl
    | cons a l ih =>
      intro i
      simp only [foldE, List.any_cons]
      cases p a with
      | true => rfl
      | false => exact ih _
  rw [e]
  cases l.any p <;> rfl
end Go.XD

/- Plain law of the graph package: arcs, laid by their nodes; New. -/
namespace Go.XD

abbrev Arc := V_easementref08_Pair
def nd (b : Bool) (a : Arc) : Int := cond b a.2.1 a.1
def ndN (b : Bool) (a : Arc) : Nat := (nd b a).toNat
/-- All arcs are between nodes. -/
def InR (n : Nat) (A : List Arc) : Prop := ∀ a ∈ A, 0 ≤ a.1 ∧ a.1 < n ∧ 0 ≤ a.2.1 ∧ a.2.1 < n
theorem InR.nd {n : Nat} {A : List Arc} (h : InR n A) (b : Bool) {a : Arc} (ha : a ∈ A) : nd b a = (ndN b a : Nat) ∧ ndN b a < n := by
  have := h a ha
  unfold ndN XD.nd
  cases b <;> simp only [cond_true, cond_false] <;> omega
def CB (b : Bool) (A : List Arc) (v : Nat) : Nat := A.countP fun a => decide (ndN b a < v)
def cn (b : Bool) (A : List Arc) (v : Nat) : Nat := A.countP fun a => ndN b a == v
theorem countP_or {α : Type} {p q r : α → Bool} (h : ∀ a, (r a = true ↔ p a = true ∨ q a = true)) (hd : ∀ a, ¬ (p a = true ∧ q a = true)) : ∀ l : List α, l.countP r = l.countP p + l.countP q
  | [] => rfl
  | a :: l => by
    rw [List.countP_cons, List.countP_cons, List.countP_cons, countP_or h hd l]
    have h1 := h a
    have h2 := hd a
    cases hp : p a <;> cases hq : q a <;> cases hr : r a <;> simp_all <;> omega
theorem CB_succ (b : Bool) (A : List Arc) (v : Nat) : CB b A (v + 1) = CB b A v + cn b A v :=
  countP_or (fun a => by simp; omega) (fun a => by simp; omega) A
theorem CB_zero (b : Bool) (A : List Arc) : CB b A 0 = 0 := by simp [CB]
theorem CB_mono (b : Bool) (A : List Arc) {u v : Nat} (h : u ≤ v) : CB b A u ≤ CB b A v := by
  unfold CB
  exact List.countP_mono_left fun a _ h' => by simp at h' ⊢; omega
theorem CB_all {b : Bool} {A : List Arc} {n : Nat} (h : InR n A) : CB b A n = A.length := by
  unfold CB
  rw [List.countP_eq_length]
  intro a ha
  simp [(h.nd b ha).2]
/-- Where an arc is laid. -/
def pos (b : Bool) (A : List Arc) (j : Nat) : Nat := CB b A (ndN b (A.getD j (0, 0, ()))) + cn b (A.take j) (ndN b (A.getD j (0, 0, ())))
theorem cn_lt {b : Bool} {A : List Arc} {j : Nat} (h : j < A.length) : cn b (A.take j) (ndN b (A.getD j (0, 0, ()))) < cn b A (ndN b (A.getD j (0, 0, ()))) := by
  have e : A.getD j (0, 0, ()) = A[j] := by simp [List.getD_eq_getElem?_getD, h]
  have h1 : cn b (A.take (j + 1)) (ndN b (A.getD j (0, 0, ()))) = cn b (A.take j) (ndN b (A.getD j (0, 0, ()))) + 1 := by
    unfold cn
    rw [countP_take_succ h, e]
    simp
  have h2 : cn b (A.take (j + 1)) (ndN b (A.getD j (0, 0, ()))) ≤ cn b A (ndN b (A.getD j (0, 0, ()))) := countP_take_len
  omega
theorem pos_lt {b : Bool} {A : List Arc} {n j : Nat} (hA : InR n A) (h : j < A.length) : pos b A j < A.length := by
  have e : A.getD j (0, 0, ()) = A[j] := by simp [List.getD_eq_getElem?_getD, h]
  have h1 := cn_lt (b := b) h
  have h2 := CB_succ b A (ndN b (A.getD j (0, 0, ())))
  have h3 : CB b A (ndN b (A.getD j (0, 0, ())) + 1) ≤ CB b A n := CB_mono b A (by rw [e]; exact (hA.nd b (List.getElem_mem h)).2)
  rw [CB_all hA] at h3
  unfold pos
  omega
theorem pos_inj {b : Bool} {A : List Arc} {i j : Nat} (hi : i < A.length) (hj : j < A.length) (h : pos b A i = pos b A j) : i = j := by
  have key : ∀ i j, i < A.length → j < A.length → pos b A i = pos b A j → ndN b (A.getD i (0, 0, ())) < ndN b (A.getD j (0, 0, ())) → False := fun i j hi hj h hlt => by
    have h1 := cn_lt (b := b) hi
    have h2 := CB_succ b A (ndN b (A.getD i (0, 0, ())))
    have h3 := CB_mono b A (show ndN b (A.getD i (0, 0, ())) + 1 ≤ ndN b (A.getD j (0, 0, ())) from hlt)
    unfold pos at h
    omega
  have key2 : ∀ i j, i < A.length → j < A.length → pos b A i = pos b A j → ndN b (A.getD i (0, 0, ())) = ndN b (A.getD j (0, 0, ())) → i < j → False := fun i j hi hj h he hlt => by
    have e : A.getD i (0, 0, ()) = A[i] := by simp [List.getD_eq_getElem?_getD, hi]
    have h1 : cn b (A.take (i + 1)) (ndN b (A.getD i (0, 0, ()))) = cn b (A.take i) (ndN b (A.getD i (0, 0, ()))) + 1 := by
      unfold cn
      rw [countP_take_succ hi, e]
      simp
    have h2 : cn b (A.take (i + 1)) (ndN b (A.getD i (0, 0, ()))) ≤ cn b (A.take j) (ndN b (A.getD i (0, 0, ()))) := countP_take_le hlt
    unfold pos at h
    rw [← he] at h
    omega
  rcases Nat.lt_trichotomy (ndN b (A.getD i (0, 0, ()))) (ndN b (A.getD j (0, 0, ()))) with hl | hl | hl
  · exact (key i j hi hj h hl).elim
  · rcases Nat.lt_trichotomy i j with h' | h' | h'
    · exact (key2 i j hi hj h hl h').elim
    · exact h'
    · exact (key2 j i hj hi h.symm hl.symm h').elim
  · exact (key j i hj hi h.symm hl).elim
/-- What is laid at a place after some arcs. -/
def outF (b : Bool) (A : List Arc) (i p : Nat) : Int := match (List.range i).find? fun j => pos b A j == p with
  | some j => (j : Int)
  | none => 0
theorem outF_succ {b : Bool} {A : List Arc} {i p : Nat} (hi : i < A.length) : outF b A (i + 1) p = if p = pos b A i then (i : Int) else outF b A i p := by
  unfold outF
  rw [List.range_succ, List.find?_append]
  by_cases hp : p = pos b A i
  · rw [if_pos hp]
    have : (List.range i).find? (fun j => pos b A j == p) = none := by
      rw [List.find?_eq_none]
      intro j hj
      have hj' := List.mem_range.1 hj
      simp only [beq_iff_eq]
      intro e
      have := pos_inj (b := b) (A := A) (by omega : j < A.length) hi (by rw [e, hp])
      omega
    rw [this]
    simp [hp]
  · rw [if_neg hp]
    have : List.find? (fun j => pos b A j == p) [i] = none := by
      rw [List.find?_eq_none]
      intro j hj
      simp at hj
      subst hj
      simpa using Ne.symm hp
    rw [this]
    simp
theorem outF_pos {b : Bool} {A : List Arc} {j : Nat} (hj : j < A.length) : outF b A A.length (pos b A j) = j := by
  unfold outF
  cases h : (List.range A.length).find? fun k => pos b A k == pos b A j with
  | none =>
    rw [List.find?_eq_none] at h
    have := h j (List.mem_range.2 hj)
    simp at this
  | some k =>
    have h1 := List.find?_some h
    have h2 := List.mem_range.1 (List.mem_of_find?_eq_some h)
    simp only [beq_iff_eq] at h1
    simp only
    rw [pos_inj h2 hj h1]
/-- Numbers, as whole numbers. -/
def ofN (l : List Nat) : List Int := l.map fun (j : Nat) => (j : Int)
/-- The arcs of a node, rising. -/
def sel (b : Bool) (A : List Arc) (v : Nat) : List Nat := (List.range A.length).filter fun j => ndN b (A.getD j (0, 0, ())) == v
theorem sel_len (b : Bool) (A : List Arc) (v : Nat) : (sel b A v).length = cn b A v := by
  have := countP_range (0, 0, ()) (p := fun a => ndN b a == v) (l := A) (Nat.le_refl A.length)
  rw [List.take_length] at this
  exact this.symm
/-- A node's part of the laid arcs. -/
theorem laid_part (b : Bool) (A : List Arc) (v : Nat) {m : Nat} (hm : m = A.length) (hle : CB b A (v + 1) ≤ m) :
    ((tab m (outF b A A.length)).take (CB b A (v + 1))).drop (CB b A v) = ofN (sel b A v) := by
  unfold ofN
  rw [tab_take hle, tab_drop]
  have hl : CB b A (v + 1) - CB b A v = (sel b A v).length := by
    rw [sel_len, CB_succ]
    omega
  apply List.ext_getElem
  · simp [hl]
  · intro k h1 h2
    rw [tab_at, List.getElem_map]
    have hk : k < (sel b A v).length := by simpa using h2
    obtain ⟨g1, g2, g3⟩ := range_sel (p := fun j => ndN b (A.getD j (0, 0, ())) == v) hk
    have e : CB b A v + k = pos b A ((sel b A v)[k]) := by
      unfold pos
      simp only [beq_iff_eq] at g1
      have hv : ndN b (A.getD ((sel b A v)[k]) (0, 0, ())) = v := g1
      rw [hv]
      congr 1
      have := countP_range (0, 0, ()) (p := fun a => ndN b a == v) (l := A) (Nat.le_of_lt g2)
      unfold cn
      exact (this.trans g3).symm
    rw [e]
    exact outF_pos g2

/-! ### The loops of lay -/
theorem node_eq (b : Bool) (a : Arc) : graph_lay_1_p0 (a, (b, ()), ()) = some (.inl (nd b a, (b, ()), ())) := by
  unfold graph_lay_1_p0 nd
  cases b <;> rfl
theorem rdL_arc {A : List Arc} {i : Nat} (h : i < A.length) : rdL t_easementref08_Pair A (i : Int) = A[i] := rdL_nat t_easementref08_Pair A h

section
variable {n : Nat} {A : List Arc} {b : Bool} (hA : InR n A) (hn : n ≤ 1048576) (hm : A.length ≤ 67108864)
include hA hn hm

theorem lay1 : lim graph_lay_l8_step (((b, ()), ()), List.replicate (n + 1) (0 : Int), A, (A.length : Int), (0 : Int), ()) = some (.inl (((b, ()), ()), tab (n + 1) (fun j => (A.countP fun a => ndN b a + 1 == j : Nat)), ())) := by
  have := lim_up (step := graph_lay_l8_step) (y := .inl (((b, ()), ()), tab (n + 1) (fun j => (A.countP fun a => ndN b a + 1 == j : Nat)), ()))
    (fun i => (((b, ()), ()), tab (n + 1) (fun j => ((A.take i).countP fun a => ndN b a + 1 == j : Nat)), A, (A.length : Int), (i : Int), ())) A.length (fun g i hi => ?_) (fun g => ?_)
  · rw [tab_rep]
    simpa using this
  · have hin := hA.nd b (List.getElem_mem hi)
    unfold graph_lay_l8_step
    simp only [dlt hi, cond_true, inB_nat hi, ck_true, rdL_arc hi, node_eq, Option.bind_some, out1_inl]
    rw [hin.1, wrap_succ (by omega), wrap_succ (by omega)]
    simp only [inB_nat (show ndN b A[i] + 1 < (tab (n + 1) (fun j => ((A.take i).countP fun a => ndN b a + 1 == j : Nat))).length by simp; omega), ck_true]
    congr 3
    simp only [Int.toNat_natCast]
    rw [tab_get (by omega)]
    refine tab_set ?_ (fun j hj => ?_)
    · rw [countP_take_succ hi]
      have : (A.take i).countP (fun a => ndN b a + 1 == ndN b A[i] + 1) ≤ (A.take i).length := List.countP_le_length
      have h2 : (A.take i).length ≤ A.length := by simp; omega
      rw [wrap32 (by omega) (by omega)]
      simp
    · rw [countP_take_succ hi, if_neg (by simpa using Ne.symm hj)]
      simp
  · unfold graph_lay_l8_step
    simp only [dge (Nat.lt_irrefl _), cond_false, List.take_length]

theorem lay2 : lim graph_lay_l18_step (tab (n + 1) (fun j => (A.countP fun a => ndN b a + 1 == j : Nat)), (n : Int), (0 : Int), ()) = some (.inl (tab (n + 1) (fun j => (CB b A j : Nat)), ())) := by
  have := lim_up (step := graph_lay_l18_step) (y := .inl (tab (n + 1) (fun j => (CB b A j : Nat)), ()))
    (fun i => (tab (n + 1) (fun j => if j ≤ i then (CB b A j : Nat) else (A.countP fun a => ndN b a + 1 == j : Nat)), (n : Int), (i : Int), ())) n (fun g i hi => ?_) (fun g => ?_)
  · rw [← this]
    congr 2
    refine tab_ext fun k hk => ?_
    by_cases h0 : k ≤ 0
    · have : k = 0 := by omega
      subst this
      simp [CB_zero]
    · rw [if_neg h0]
  · unfold graph_lay_l18_step
    simp only [dlt hi, cond_true, wrap_succ (show i < 9223372036854775807 by omega), inB_nat (show i + 1 < (tab (n + 1) (fun j => if j ≤ i then (CB b A j : Int) else ((A.countP fun a => ndN b a + 1 == j : Nat) : Int))).length by simp; omega), inB_nat (show i < (tab (n + 1) (fun j => if j ≤ i then (CB b A j : Int) else ((A.countP fun a => ndN b a + 1 == j : Nat) : Int))).length by simp; omega), ck_true]
    congr 2
    simp only [Int.toNat_natCast]
    rw [tab_get (by omega), tab_get (by omega)]
    have h1 : CB b A i + cn b A i = CB b A (i + 1) := (CB_succ b A i).symm
    have h2 : CB b A (i + 1) ≤ A.length := List.countP_le_length
    have e : (A.countP fun a => ndN b a + 1 == i + 1) = cn b A i := by
      unfold cn
      exact List.countP_congr fun a _ => by simp
    refine tab_set ?_ (fun j hj => ?_)
    · rw [if_pos (Nat.le_refl _), if_neg (by omega), if_pos (Nat.le_refl _), e, wrap32 (by omega) (by omega)]
      omega
    · by_cases hj2 : j ≤ i
      · rw [if_pos (by omega), if_pos hj2]
      · rw [if_neg (by omega), if_neg hj2]
  · unfold graph_lay_l18_step
    simp only [dge (Nat.lt_irrefl _), cond_false]
    congr 3
    exact tab_ext fun k hk => by rw [if_pos (by omega)]

theorem lay3 : lim graph_lay_l32_step (((b, ()), ()), tab (n + 1) (fun j => (CB b A j : Nat)), List.replicate A.length (0 : Int), A, (A.length : Int), (0 : Int), ()) =
    some (.inl (((b, ()), ()), tab (n + 1) (fun j => (CB b A j + cn b A j : Nat)), tab A.length (outF b A A.length), ())) := by
  have := lim_up (step := graph_lay_l32_step) (y := .inl (((b, ()), ()), tab (n + 1) (fun j => (CB b A j + cn b A j : Nat)), tab A.length (outF b A A.length), ()))
    (fun i => (((b, ()), ()), tab (n + 1) (fun j => (CB b A j + cn b (A.take i) j : Nat)), tab A.length (outF b A i), A, (A.length : Int), (i : Int), ())) A.length (fun g i hi => ?_) (fun g => ?_)
  · rw [tab_rep, ← this]
    have e0 : outF b A 0 = fun _ => 0 := by
      funext p
      simp [outF]
    simp [cn, e0]
  · have hin := hA.nd b (List.getElem_mem hi)
    have e : A.getD i (0, 0, ()) = A[i] := by simp [List.getD_eq_getElem?_getD, hi]
    have hpos : pos b A i = CB b A (ndN b A[i]) + cn b (A.take i) (ndN b A[i]) := by unfold pos; rw [e]
    have hplt := pos_lt (b := b) hA hi
    unfold graph_lay_l32_step
    simp only [dlt hi, cond_true, inB_nat hi, ck_true, rdL_arc hi, node_eq, Option.bind_some, out1_inl]
    rw [hin.1]
    have hb1 : inB ((ndN b A[i] : Nat) : Int) (tab (n + 1) (fun j => ((CB b A j + cn b (A.take i) j : Nat) : Int))).length = true := inB_nat (by simp; omega)
    simp only [hb1, ck_true, Int.toNat_natCast]
    rw [tab_get (by omega), ← hpos]
    simp only [inB_nat (show pos b A i < (tab A.length (outF b A i)).length by simpa using hplt), ck_true, Int.toNat_natCast]
    rw [wrap_succ (by omega), wrap32 (by omega) (by omega), wrap32 (by omega) (by omega)]
    congr 3
    · refine tab_set ?_ (fun j hj => ?_)
      · rw [show cn b (A.take (i + 1)) (ndN b A[i]) = cn b (A.take i) (ndN b A[i]) + 1 from by unfold cn; rw [countP_take_succ hi]; simp]
        omega
      · rw [show cn b (A.take (i + 1)) j = cn b (A.take i) j from by unfold cn; rw [countP_take_succ hi]; simp; omega]
    · congr 1
      exact tab_set (by rw [outF_succ hi, if_pos rfl]) (fun j hj => by rw [outF_succ hi, if_neg hj])
  · unfold graph_lay_l32_step
    simp only [dge (Nat.lt_irrefl _), cond_false, List.take_length]

theorem lay_eq : graph_lay ((n : Int), A, b, ()) = some (tab A.length (outF b A A.length), tab (n + 1) (fun j => (CB b A j : Nat)), ()) := by
  unfold graph_lay
  simp only [wrap_succ (show n < 9223372036854775807 by omega), Int.toNat_natCast]
  rw [lay1 hA hn hm]
  simp only [Option.bind_some, out1_inl]
  rw [lay2 hA hn hm]
  simp only [Option.bind_some, out1_inl, List.nil_append, tab_len]
  rw [lay3 hA hn hm, roomB_ok (by omega)]
  simp only [Option.bind_some, out1_inl, ck_true]
  rw [show (decide ((0 : Int) ≤ ((n + 1 : Nat) : Int)) && decide (((n + 1 : Nat) : Int) ≤ ((n + 1 : Nat) : Int)) && decide (((n + 1 : Nat) : Int) * ((6 : Nat) : Int) ≤ 35184372088832)) = true from by simp; omega,
    show (decide ((0 : Int) ≤ (A.length : Int)) && decide ((A.length : Int) ≤ (A.length : Int)) && decide ((A.length : Int) * ((6 : Nat) : Int) ≤ 35184372088832)) = true from by simp; omega]
  simp only [ck_true]
end

/-! ### New -/
def badArc (n : Int) (a : Arc) : Bool := decide (a.1 < 0) || decide (a.1 ≥ n) || decide (a.2.1 < 0) || decide (a.2.1 ≥ n)
theorem findIdx_not {α : Type} {p : α → Bool} {l : List α} {i : Nat} (hi : i < l.findIdx p) (hl : i < l.length) : p l[i] = false := by
  have := List.not_of_lt_findIdx hi
  simpa using this
theorem New_loop (n : Int) (A : List Arc) (hl : A.length ≤ 67108864) : lim graph_New_l12_step (n, A, (A.length : Int), (0 : Int), ()) = some (if A.any (badArc n) then .inl ((), (7 : Int), ()) else .inr (.inl ())) := by
  refine lim_up (step := graph_New_l12_step) (fun i => (n, A, (A.length : Int), (i : Int), ())) (A.findIdx (badArc n)) (fun g i hi => ?_) (fun g => ?_)
  · have hil : i < A.length := Nat.lt_of_lt_of_le hi List.findIdx_le_length
    have := findIdx_not hi hil
    unfold graph_New_l12_step
    simp only [dlt hil, cond_true, inB_nat hil, ck_true, rdL_arc hil, cond_or]
    change (bif badArc n A[i] then _ else _) = _
    rw [this, wrap_succ (by omega)]
    rfl
  · unfold graph_New_l12_step
    by_cases hex : A.any (badArc n) = true
    · have hil : A.findIdx (badArc n) < A.length := List.findIdx_lt_length_of_exists (by
        obtain ⟨a, h1, h2⟩ := List.any_eq_true.1 hex
        exact ⟨a, h1, h2⟩)
      have hb : badArc n A[A.findIdx (badArc n)] = true := List.findIdx_getElem (w := hil)
      simp only [dlt hil, cond_true, inB_nat hil, ck_true, rdL_arc hil, cond_or]
      change (bif badArc n A[A.findIdx (badArc n)] then _ else _) = _
      rw [hb, if_pos hex]
      rfl
    · have : A.findIdx (badArc n) = A.length := by
        rw [List.findIdx_eq_length]
        intro a ha
        cases h : badArc n a with
        | false => rfl
        | true => exact absurd (List.any_eq_true.2 ⟨a, ha, h⟩) hex
      rw [this, if_neg hex]
      simp only [dge (Nat.lt_irrefl _), cond_false]
theorem inR_of {n : Nat} {A : List Arc} (h : A.any (badArc n) = false) : InR n A := fun a ha => by
  have := List.any_eq_false.1 h a ha
  simp only [badArc, Bool.or_eq_true, decide_eq_true_eq, not_or, Int.not_lt, Int.not_le, ge_iff_le] at this
  omega
/-- The graph. -/
def gr (n : Nat) (A : List Arc) : V_graph_Graph := ((n : Int), A, tab A.length (outF false A A.length), tab A.length (outF true A A.length), tab (n + 1) (fun j => (CB false A j : Nat)), tab (n + 1) (fun j => (CB true A j : Nat)), ())
theorem New_eq {n : Nat} {A : List Arc} (hA : InR n A) (hn : n ≤ 1048576) (hm : A.length ≤ 67108864) : graph_New ((n : Int), A, ()) = some (some (gr n A), (0 : Int), ()) := by
  have hb : A.any (badArc n) = false := by
    rw [List.any_eq_false]
    intro a ha h
    have := hA a ha
    simp only [badArc, Bool.or_eq_true, decide_eq_true_eq] at h
    omega
  unfold graph_New
  simp only
  rw [New_loop _ _ hm, hb]
  rw [show decide ((n : Int) < 0) = false from by simp, show decide ((n : Int) > 1048576) = false from by simp; omega, show decide ((A.length : Int) > 67108864) = false from by simp; omega]
  simp only [cond_false, Bool.false_eq_true, if_false, Option.bind_some, out2_inr, List.nil_append]
  rw [roomB_ok (by omega), ck_true, lay_eq hA hn hm, lay_eq hA hn hm]
  rfl
theorem New_neg {n : Int} {A : List Arc} (h : n < 0) : graph_New (n, A, ()) = some (none, (2 : Int), ()) := by
  unfold graph_New
  simp [h]
theorem New_bad {n : Int} {A : List Arc} (h0 : 0 ≤ n) (hn : n ≤ 1048576) (hm : A.length ≤ 67108864) (h : A.any (badArc n) = true) : graph_New (n, A, ()) = some (none, (7 : Int), ()) := by
  unfold graph_New
  simp only
  rw [New_loop _ _ hm, h]
  rw [show decide (n < 0) = false from by simp; omega, show decide (n > 1048576) = false from by simp; omega, show decide ((A.length : Int) > 67108864) = false from by simp; omega]
  simp only [cond_false, if_true, Option.bind_some, out2_inl]

/-! ### Out, In, Next -/
theorem Nodes_some {g : V_graph_Graph} : graph_Graph_Nodes (some g, ()) = some (g.1, ()) := by
  unfold graph_Graph_Nodes
  rfl
theorem Nodes_none : graph_Graph_Nodes (none, ()) = some (0, ()) := by
  unfold graph_Graph_Nodes
  rfl
end Go.XD

/- Plain law of the graph package: Out, Next, and what is reached. -/
namespace Go.XD

section
variable {l : List Int} (hl : l.length ≤ 67108864) (hr : ∀ x ∈ l, 0 ≤ x ∧ x ≤ 67108864)
include hl hr
theorem ints_rd {i : Nat} (hi : i < l.length) : IntKind.i64.wrap (rdL (.int .i32) l (i : Int)) = l[i] := by
  rw [rdL_nat (.int .i32) l hi]
  have := hr l[i] (List.getElem_mem hi)
  exact wrap64 (by omega) (by omega)
theorem ints_loop_p : lim graph_ints_p0_l6_step (List.replicate l.length (0 : Int), l, (l.length : Int), (0 : Int), ()) = some (.inl (l, ())) := by
  have := lim_up (step := graph_ints_p0_l6_step) (y := .inl (l, ())) (fun i => (tab l.length (fun k => if k < i then l.getD k 0 else 0), l, (l.length : Int), (i : Int), ())) l.length (fun g i hi => ?_) (fun g => ?_)
  · rw [tab_rep]
    simpa using this
  · unfold graph_ints_p0_l6_step
    simp only [dlt hi, cond_true, inB_nat hi, ck_true, ints_rd hl hr hi, wrap_succ (show i < 9223372036854775807 by omega), inB_nat (show i < (tab l.length (fun k => if k < i then l.getD k 0 else 0)).length by simpa using hi), Int.toNat_natCast]
    congr 2
    refine tab_set ?_ (fun j hj => ?_)
    · rw [if_pos (by omega)]
      simp [List.getD_eq_getElem?_getD, hi]
    · by_cases h : j < i
      · rw [if_pos h, if_pos (by omega)]
      · rw [if_neg h, if_neg (by omega)]
  · unfold graph_ints_p0_l6_step
    simp only [dge (Nat.lt_irrefl _), cond_false]
    rw [tab_ext (g' := fun k => l.getD k 0) (fun k hk => by rw [if_pos hk]), ← tab_of]
theorem ints_ck : (decide ((0 : Int) ≤ (l.length : Int)) && decide ((l.length : Int) ≤ (l.length : Int)) && decide ((l.length : Int) * ((10 : Nat) : Int) ≤ 35184372088832)) = true := by simp; omega
theorem ints_eq_p : graph_ints_p0 (l, ()) = some (.inl (l, ())) := by
  unfold graph_ints_p0
  simp only
  rw [ints_ck hl hr, ck_true, Int.toNat_natCast, ints_loop_p hl hr]
  rfl
end
theorem sel_bound {b : Bool} {A : List Arc} {v : Nat} {j : Nat} (h : j ∈ sel b A v) : j < A.length ∧ ndN b (A.getD j (0, 0, ())) = v := by
  unfold sel at h
  rw [List.mem_filter, List.mem_range] at h
  simpa using h
section
variable {n : Nat} {A : List Arc} (hA : InR n A) (hn : n ≤ 1048576) (hm : A.length ≤ 67108864)
include hA hn hm
theorem sel_ok {b : Bool} {v : Nat} : (ofN (sel b A v)).length ≤ 67108864 ∧ ∀ x ∈ ofN (sel b A v), 0 ≤ x ∧ x ≤ 67108864 := by
  constructor
  · unfold ofN
    rw [List.length_map, sel_len]
    exact Nat.le_trans List.countP_le_length hm
  · intro x hx
    obtain ⟨j, h1, rfl⟩ := List.mem_map.1 hx
    have := (sel_bound h1).1
    omega
theorem part_ck {b : Bool} {v : Nat} (hv : v < n) : CB b A (v + 1) ≤ A.length ∧ CB b A v ≤ CB b A (v + 1) := ⟨List.countP_le_length, CB_mono b A (Nat.le_succ v)⟩
theorem Out_p_eq {v : Nat} (hv : v < n) : graph_Graph_Out_p0 (some (gr n A), (v : Int), ()) = some (.inl (ofN (sel false A v), ())) := by
  obtain ⟨k1, k2⟩ := part_ck hA hn hm (b := false) hv
  unfold graph_Graph_Out_p0
  simp only [Nodes_some, Option.bind_some, Option.isSome_some, ck_true, Option.getD_some, gr]
  rw [show decide ((v : Int) < 0) = false from by simp, show decide ((v : Int) ≥ (n : Int)) = false from by simp; omega]
  simp only [Bool.not_false, cond_true, cond_false, wrap_succ (show v < 9223372036854775807 by omega), tab_len, inB_nat (show v < n + 1 by omega), inB_nat (show v + 1 < n + 1 by omega), ck_true]
  simp only [rdL_tab (show v < n + 1 by omega), rdL_tab (show v + 1 < n + 1 by omega), Int.toNat_natCast]
  rw [show (decide ((0 : Int) ≤ ((CB false A v : Nat) : Int)) && decide (((CB false A v : Nat) : Int) ≤ ((CB false A (v + 1) : Nat) : Int)) && decide (((CB false A (v + 1) : Nat) : Int) ≤ (A.length : Int))) = true from by simp; omega, ck_true, laid_part false A v rfl k1, ints_eq_p (sel_ok hA hn hm).1 (sel_ok hA hn hm).2]
  rfl
/-- Where a node's arcs lead. -/
def nxt (A : List Arc) (v : Nat) : List Int := (sel false A v).map fun j => (A.getD j (0, 0, ())).2.1
omit hA in
theorem Next_loop {v : Nat} : lim graph_Graph_Next_l6_step (some (gr n A), ofN (sel false A v), ((ofN (sel false A v)).length : Int), (0 : Int), ()) = some (.inl (nxt A v, ())) := by
  have hlen : (ofN (sel false A v)).length = (sel false A v).length := by simp [ofN]
  have hle : (sel false A v).length ≤ A.length := by rw [sel_len]; exact List.countP_le_length
  have := lim_up (step := graph_Graph_Next_l6_step) (y := .inl (nxt A v, ())) (fun i => (some (gr n A), (nxt A v).take i ++ (ofN (sel false A v)).drop i, ((ofN (sel false A v)).length : Int), (i : Int), ())) (ofN (sel false A v)).length (fun g i hi => ?_) (fun g => ?_)
  · simpa using this
  · rw [hlen] at hi
    have hil : i < ((nxt A v).take i ++ (ofN (sel false A v)).drop i).length := by simp [nxt, ofN]; omega
    have hj := sel_bound (List.getElem_mem hi)
    unfold graph_Graph_Next_l6_step
    simp only [hlen, dlt hi, cond_true, inB_nat hil, ck_true, Option.isSome_some, Option.getD_some, wrap_succ (show i < 9223372036854775807 by omega), Int.toNat_natCast]
    have hg : ((nxt A v).take i ++ (ofN (sel false A v)).drop i).getD i (Ty.dflt (.int .i64)) = (((sel false A v)[i] : Nat) : Int) := by
      rw [List.getD_eq_getElem?_getD, List.getElem?_append_right (by simp [nxt]; omega), List.length_take, List.getElem?_drop]
      simp [nxt, ofN, hi, Nat.min_eq_left (Nat.le_of_lt hi)]
    rw [hg]
    simp only [gr, inB_nat hj.1, ck_true, rdL_arc hj.1]
    congr 3
    apply List.ext_getElem?
    intro k
    rw [List.getElem?_set]
    have e : A[(sel false A v)[i]].2.1 = (A.getD (sel false A v)[i] (0, 0, ())).2.1 := by simp [List.getD_eq_getElem?_getD, hj.1]
    by_cases hk : i = k
    · subst hk
      rw [if_pos rfl, if_pos hil, e, List.getElem?_append_left (by simp [nxt]; omega), List.getElem?_take_of_lt (by omega)]
      simp [nxt, hi]
    · rw [if_neg hk]
      by_cases hlt : k < i
      · rw [List.getElem?_append_left (by simp [nxt]; omega), List.getElem?_append_left (by simp [nxt]; omega), List.getElem?_take_of_lt (by omega), List.getElem?_take_of_lt (by omega)]
      · rw [List.getElem?_append_right (by simp [nxt]; omega), List.getElem?_append_right (by simp [nxt]; omega), List.getElem?_drop, List.getElem?_drop]
        congr 1
        simp [nxt]
        omega
  · unfold graph_Graph_Next_l6_step
    simp only [dge (Nat.lt_irrefl _), cond_false]
    rw [hlen, List.take_of_length_le (by simp [nxt]), List.drop_eq_nil_of_le (by simp [ofN]), List.append_nil]
theorem Next_eq {v : Nat} (hv : v < n) : graph_Graph_Next (some (gr n A), (v : Int), ()) = some (nxt A v, ()) := by
  unfold graph_Graph_Next
  simp only [Out_p_eq hA hn hm hv, Option.bind_some, out1_inl]
  rw [Next_loop hn hm]
  rfl
end

/-! ### Reach -/
/-- Arcs lead from one to the other. -/
inductive Rch (A : List Arc) (v : Nat) : Nat → Prop
  | refl : Rch A v v
  | step {a : Arc} (h : Rch A v (ndN false a)) (ha : a ∈ A) : Rch A v (ndN true a)
open Classical in
/-- 1 of each that is reached. -/
noncomputable def ind (A : List Arc) (v w : Nat) : Int := if Rch A v w then 1 else 0
theorem nxt_mem {A : List Arc} {v : Nat} {x : Int} : x ∈ nxt A v ↔ ∃ a ∈ A, ndN false a = v ∧ a.2.1 = x := by
  unfold nxt
  rw [List.mem_map]
  constructor
  · rintro ⟨j, h1, h2⟩
    obtain ⟨k1, k2⟩ := sel_bound h1
    exact ⟨A.getD j (0, 0, ()), by simp [List.getD_eq_getElem?_getD, k1], k2, h2⟩
  · rintro ⟨a, h1, h2, h3⟩
    obtain ⟨j, hj, rfl⟩ := List.getElem_of_mem h1
    have e : A.getD j (0, 0, ()) = A[j] := by simp [List.getD_eq_getElem?_getD, hj]
    refine ⟨j, ?_, by rw [e]; exact h3⟩
    unfold sel
    rw [List.mem_filter, List.mem_range]
    exact ⟨hj, by rw [e]; simpa using h2⟩
def zs (b : List Int) : Nat := b.countP fun x => x == 0
theorem zs_set {b : List Int} {k : Nat} (hk : k < b.length) (h : b[k] = 0) : zs (b.set k 1) + 1 = zs b := by
  unfold zs
  rw [List.countP_set hk, h]
  have : 0 < b.countP fun x => x == 0 := List.countP_pos_iff.2 ⟨b[k], List.getElem_mem hk, by simp [h]⟩
  simp
  omega
section
variable {n : Nat} {A : List Arc} (hA : InR n A)
include hA
theorem nxt_in {k : Nat} {x : Int} (h : x ∈ nxt A k) : 0 ≤ x ∧ x < n := by
  obtain ⟨a, h1, _, rfl⟩ := nxt_mem.1 h
  have := hA a h1
  omega
end
end Go.XD

/- Plain law of the reference's graphs: Next, Turn, Reach, Nodes; and of the program's turned graph. -/
namespace Go.XD

/-- Where the arcs from a node lead. -/
def rn (A : List Arc) (v : Int) : List Int := (A.filter fun a => a.1 == v).map fun a => a.2.1
theorem filt_getD (A : List Arc) (p : Arc → Bool) : ((List.range A.length).filter fun j => p (A.getD j (0, 0, ()))).map (fun j => A.getD j (0, 0, ())) = A.filter p := by
  have key : ∀ m, m ≤ A.length → ((List.range m).filter fun j => p (A.getD j (0, 0, ()))).map (fun j => A.getD j (0, 0, ())) = (A.take m).filter p := fun m => by
    induction m with
    | zero => intro _; simp
    | succ m ih =>
      intro hm
      have hlt : m < A.length := by omega
      have e : A.getD m (0, 0, ()) = A[m] := by simp [List.getD_eq_getElem?_getD, hlt]
      rw [List.range_succ, List.filter_append, List.map_append, ih (by omega), take_snoc hlt, List.filter_append]
      congr 1
      simp only [List.filter_cons, List.filter_nil, e]
      split <;> simp [hlt]
  have := key A.length (Nat.le_refl _)
  rw [List.take_length] at this
  exact this
theorem nxt_rn {n : Nat} {A : List Arc} (hA : InR n A) (v : Nat) : nxt A v = rn A (v : Int) := by
  have h1 : nxt A v = (A.filter fun a => ndN false a == v).map fun a => a.2.1 := by
    unfold nxt sel
    rw [← filt_getD A (fun a => ndN false a == v), List.map_map]
    rfl
  rw [h1]
  unfold rn
  congr 1
  apply List.filter_congr
  intro a ha
  have := hA a ha
  unfold ndN nd
  simp only [cond_false]
  rw [Bool.eq_iff_iff, beq_iff_eq, beq_iff_eq]
  omega
/-! ### Reach -/
/-- One round's look at an arc. -/
def rcF (_ : Nat) (s : List Int × Bool) (a : Arc) : List Int × Bool := bif (s.1.getD a.1.toNat 0 == 1) && (s.1.getD a.2.1.toNat 0 == 0) then (s.1.set a.2.1.toNat 1, true) else s
structure RcOK (n : Nat) (A : List Arc) (v : Nat) (b : List Int) : Prop where
  len : b.length = n
  v1 : b.getD v 0 = 1
  bits : ∀ k, k < n → b.getD k 0 = 0 ∨ b.getD k 0 = 1
  rch : ∀ k, b.getD k 0 = 1 → Rch A v k
theorem getD_set {b : List Int} {k j : Nat} {x : Int} (hk : k < b.length) : (b.set k x).getD j 0 = if k = j then x else b.getD j 0 := by
  simp only [List.getD_eq_getElem?_getD, List.getElem?_set]
  by_cases h : k = j
  · subst h
    simp [hk]
  · simp [h]
theorem rcF_ok {n : Nat} {A : List Arc} (hA : InR n A) {v : Nat} {b : List Int} {c : Bool} {a : Arc} (ha : a ∈ A) (h : RcOK n A v b) (i : Nat) : RcOK n A v (rcF i (b, c) a).1 ∧ zs (rcF i (b, c) a).1 ≤ zs b ∧ ((rcF i (b, c) a).2 = true → c = true ∨ zs (rcF i (b, c) a).1 < zs b) ∧ (c = true → (rcF i (b, c) a).2 = true) ∧
    ((rcF i (b, c) a).2 = false → (rcF i (b, c) a).1 = b ∧ (b.getD a.1.toNat 0 = 1 → b.getD a.2.1.toNat 0 = 1)) := by
  have hr := hA a ha
  unfold rcF
  simp only
  cases hc : (b.getD a.1.toNat 0 == 1) && (b.getD a.2.1.toNat 0 == 0) with
  | false =>
    refine ⟨h, Nat.le_refl _, fun e => .inl e, fun e => e, fun _ => ⟨rfl, fun e => ?_⟩⟩
    rcases h.bits a.2.1.toNat (by omega) with h0 | h0
    · rw [e, h0] at hc; cases hc
    · exact h0
  | true =>
    rw [Bool.and_eq_true, beq_iff_eq, beq_iff_eq] at hc
    have hk : a.2.1.toNat < b.length := by rw [h.len]; omega
    have hz : b[a.2.1.toNat] = 0 := by
      have := hc.2
      rw [List.getD_eq_getElem?_getD, List.getElem?_eq_getElem hk] at this
      exact this
    have hzs := zs_set hk hz
    simp only [cond_true]
    refine ⟨⟨by rw [List.length_set]; exact h.len, ?_, fun k hk' => ?_, fun k hk' => ?_⟩, by omega, fun _ => .inr (by omega), fun _ => trivial, fun e => by cases e⟩
    · rw [getD_set hk]
      split
      · rfl
      · exact h.v1
    · rw [getD_set hk]
      split
      · exact .inr rfl
      · exact h.bits k hk'
    · rw [getD_set hk] at hk'
      split at hk'
      · rename_i e
        have := Rch.step (A := A) (v := v) (a := a) (by
          show Rch A v a.1.toNat
          exact h.rch _ hc.1) ha
        rw [← e]
        exact this
      · exact h.rch k hk'
theorem rc_pass {n : Nat} {A : List Arc} (hA : InR n A) {v : Nat} : ∀ (l : List Arc) (i : Nat) (b : List Int) (c : Bool), (∀ a ∈ l, a ∈ A) → RcOK n A v b → RcOK n A v (foldI rcF i (b, c) l).1 ∧ zs (foldI rcF i (b, c) l).1 ≤ zs b ∧ ((foldI rcF i (b, c) l).2 = true → c = true ∨ zs (foldI rcF i (b, c) l).1 < zs b) ∧ (c = true → (foldI rcF i (b, c) l).2 = true) ∧
    ((foldI rcF i (b, c) l).2 = false → (foldI rcF i (b, c) l).1 = b ∧ ∀ a ∈ l, b.getD a.1.toNat 0 = 1 → b.getD a.2.1.toNat 0 = 1)
  | [], i, b, c, _, h => ⟨h, Nat.le_refl _, fun e => .inl e, fun e => e, fun _ => ⟨rfl, fun a ha => by cases ha⟩⟩
  | a :: l, i, b, c, hl, h => by
    obtain ⟨h1, h2, h3, h4, h5⟩ := rcF_ok hA (c := c) (hl a List.mem_cons_self) h i
    simp only [foldI]
    obtain ⟨b', c', e⟩ : ∃ b' c', rcF i (b, c) a = (b', c') := ⟨_, _, rfl⟩
    rw [e] at h1 h2 h3 h4 h5 ⊢
    simp only at h1 h2 h3 h4 h5
    obtain ⟨k1, k2, k3, k4, k5⟩ := rc_pass hA l (i + 1) b' c' (fun x hx => hl x (List.mem_cons_of_mem _ hx)) h1
    refine ⟨k1, by omega, fun hc => ?_, fun hc => k4 (h4 hc), fun hf => ?_⟩
    · rcases k3 hc with hc' | hz
      · rcases h3 hc' with h | h
        · exact .inl h
        · exact .inr (by omega)
      · exact .inr (by omega)
    · obtain ⟨q1, q2⟩ := k5 hf
      have hc' : c' = false := by
        cases hcc : c' with
        | false => rfl
        | true => rw [k4 hcc] at hf; cases hf
      obtain ⟨q3, q4⟩ := h5 hc'
      subst q3
      refine ⟨q1, fun x hx => ?_⟩
      rcases List.mem_cons.1 hx with rfl | hx
      · exact q4
      · exact q2 x hx
theorem rc_loop {n : Nat} {A : List Arc} (hA : InR n A) (hm : A.length ≤ 1000000) {v : Nat} {b : List Int} (h : RcOK n A v b) :
    lim ref10_Reach_l14_step (A, b, false, (0 : Int), ()) = some (.inl ((foldI rcF 0 (b, false) A).2, (foldI rcF 0 (b, false) A).1, ())) := by
  refine lim_foldI (step := ref10_Reach_l14_step) A rcF (fun s i => (A, s.1, s.2, (i : Int), ())) (fun s => .inl (s.2, s.1, ())) (fun i s => s.1.length = n) (fun g i s hi hinv => ?_) (fun i s hi hinv => ?_) (fun g s _ => ?_) (s0 := (b, false)) h.len
  · have hr := hA A[i] (List.getElem_mem hi)
    have i1 : inB A[i].1 s.1.length = true := by
      unfold inB
      simp
      omega
    have i2 : inB A[i].2.1 s.1.length = true := by
      unfold inB
      simp
      omega
    unfold ref10_Reach_l14_step ref10_Reach_j83_v rcF
    simp only [dlt hi, cond_true, inB_nat hi, ck_true, rdL_arc hi, wrap_succ (show i < 9223372036854775807 by omega), i1, i2, Bool.true_or, cond_and]
    rw [show Ty.dflt (.int .i64) = (0 : Int) from rfl]
    cases (s.1.getD A[i].1.toNat 0 == 1) && (s.1.getD A[i].2.1.toNat 0 == 0) <;> rfl
  · unfold rcF
    cases (s.1.getD A[i].1.toNat 0 == 1) && (s.1.getD A[i].2.1.toNat 0 == 0) with
    | true => simpa using hinv
    | false => exact hinv
  · unfold ref10_Reach_l14_step
    simp only [dge (Nat.lt_irrefl _), cond_false]
theorem rc_done {n : Nat} {A : List Arc} (hA : InR n A) {v : Nat} (hv : v < n) {b : List Int} (h : RcOK n A v b) (hc : ∀ a ∈ A, b.getD a.1.toNat 0 = 1 → b.getD a.2.1.toNat 0 = 1) : b = tab n (ind A v) := by
  have h1 : ∀ k, Rch A v k → b.getD k 0 = 1 := fun k hk => by
    induction hk with
    | refl => exact h.v1
    | step _ ha ih => exact hc _ ha ih
  rw [tab_of b, h.len]
  refine tab_ext fun k hk => ?_
  unfold ind
  split
  · rename_i hr
    exact h1 k hr
  · rename_i hr
    rcases h.bits k hk with e | e
    · exact e
    · exact absurd (h.rch k e) hr
theorem rc_outer {n : Nat} {A : List Arc} (hA : InR n A) (hm : A.length ≤ 1000000) {v : Nat} (hv : v < n) {b : List Int} (h : RcOK n A v b) : lim ref10_Reach_l8_step (A, b, true, ()) = some (.inl (tab n (ind A v), ())) := by
  have hex := lim_ex (step := ref10_Reach_l8_step) (x := (A, b, true, ())) (fun x => ∃ b c, x = (A, b, c, ()) ∧ RcOK n A v b ∧ (c = false → ∀ a ∈ A, b.getD a.1.toNat 0 = 1 → b.getD a.2.1.toNat 0 = 1)) (fun x => 2 * zs x.2.1 + (bif x.2.2.1 then 1 else 0)) (fun y => y = .inl (tab n (ind A v), ())) (fun x hx => ?_) ⟨b, true, rfl, h, fun e => by cases e⟩
  · obtain ⟨y, rfl, hl⟩ := hex
    exact hl
  · obtain ⟨b, c, rfl, h, hc⟩ := hx
    cases c with
    | false =>
      left
      refine ⟨_, rfl, fun g => ?_⟩
      unfold ref10_Reach_l8_step
      simp only [cond_false]
      rw [← rc_done hA hv h (hc rfl)]
    | true =>
      right
      obtain ⟨k1, k2, k3, k4, k5⟩ := rc_pass hA A 0 b false (fun a ha => ha) h
      refine ⟨_, ⟨(foldI rcF 0 (b, false) A).1, (foldI rcF 0 (b, false) A).2, rfl, k1, fun e => ?_⟩, ?_, fun g => ?_⟩
      · obtain ⟨q1, q2⟩ := k5 e
        rw [q1]
        exact q2
      · simp only
        cases e : (foldI rcF 0 (b, false) A).2 with
        | true =>
          rcases k3 e with h | h
          · cases h
          · simp only [cond_true]; omega
        | false => simp only [cond_true, cond_false]; omega
      · unfold ref10_Reach_l8_step
        simp only [cond_true]
        rw [rc_loop hA hm h]
        rfl
theorem rReach_eq {n : Nat} {A : List Arc} (hA : InR n A) (hn : n ≤ 1000000) (hm : A.length ≤ 1000000) {v : Nat} (hv : v < n) : ref10_Reach ((n : Int), A, (v : Int), ()) = some (tab n (ind A v), ()) := by
  have h0 : RcOK n A v ((List.replicate n (0 : Int)).set v 1) := by
    have hl : v < (List.replicate n (0 : Int)).length := by simpa using hv
    have hz : ∀ k, (List.replicate n (0 : Int)).getD k 0 = 0 := fun k => by
      rw [List.getD_eq_getElem?_getD, List.getElem?_replicate]
      split <;> rfl
    refine ⟨by simp, by rw [getD_set hl, if_pos rfl], fun k hk => ?_, fun k hk => ?_⟩
    · rw [getD_set hl]
      split
      · exact .inr rfl
      · exact .inl (hz k)
    · rw [getD_set hl] at hk
      split at hk
      · rename_i e
        exact e ▸ Rch.refl
      · rw [hz] at hk; cases hk
  unfold ref10_Reach
  simp only
  rw [show (decide ((0 : Int) ≤ (n : Int)) && decide ((n : Int) ≤ (n : Int)) && decide ((n : Int) * ((10 : Nat) : Int) ≤ 35184372088832)) = true from by simp; omega, ck_true, Int.toNat_natCast, Int.toNat_natCast, inB_nat (by simpa using hv), ck_true, rc_outer hA hm hv h0]
  rfl
/-! ### Turned -/
def trn (A : List Arc) : List Arc := A.map fun a => (a.2.1, a.1, ())
theorem trn_inR {n : Nat} {A : List Arc} (hA : InR n A) : InR n (trn A) := fun a ha => by
  obtain ⟨b, hb, rfl⟩ := List.mem_map.1 ha
  have := hA b hb
  simp only
  omega
theorem trn_len (A : List Arc) : (trn A).length = A.length := by simp [trn]
theorem ndN_trn (b : Bool) (a : Arc) : ndN b (a.2.1, a.1, ()) = ndN (!b) a := by cases b <;> rfl
theorem trn_getD (A : List Arc) (j : Nat) : (trn A).getD j (0, 0, ()) = ((A.getD j (0, 0, ())).2.1, (A.getD j (0, 0, ())).1, ()) := by
  unfold trn
  by_cases h : j < A.length
  · simp [List.getD_eq_getElem?_getD, h]
  · simp [List.getD_eq_getElem?_getD, List.getElem?_eq_none (Nat.le_of_not_lt h)]
theorem CB_trn (b : Bool) (A : List Arc) (v : Nat) : CB b (trn A) v = CB (!b) A v := by
  unfold CB trn
  rw [List.countP_map]
  congr 1
  funext a
  simp only [Function.comp, ndN_trn]
theorem cn_trn (b : Bool) (A : List Arc) (v : Nat) : cn b (trn A) v = cn (!b) A v := by
  unfold cn trn
  rw [List.countP_map]
  congr 1
  funext a
  simp only [Function.comp, ndN_trn]
theorem trn_take (A : List Arc) (j : Nat) : (trn A).take j = trn (A.take j) := by simp [trn, List.map_take]
theorem pos_trn (b : Bool) (A : List Arc) (j : Nat) : pos b (trn A) j = pos (!b) A j := by
  unfold pos
  rw [trn_getD, ndN_trn, CB_trn, trn_take, cn_trn]
theorem outF_trn (b : Bool) (A : List Arc) (i p : Nat) : outF b (trn A) i p = outF (!b) A i p := by
  unfold outF
  have e : (fun j => pos b (trn A) j == p) = fun j => pos (!b) A j == p := by
    funext j
    rw [pos_trn]
  rw [e]
theorem gr_trn (n : Nat) (A : List Arc) : gr n (trn A) = ((n : Int), trn A, tab A.length (outF true A A.length), tab A.length (outF false A A.length), tab (n + 1) (fun j => (CB true A j : Nat)), tab (n + 1) (fun j => (CB false A j : Nat)), ()) := by
  have e1 : ∀ b, outF b (trn A) A.length = outF (!b) A A.length := fun b => by
    funext p
    exact outF_trn b A _ p
  unfold gr
  rw [trn_len, e1, e1]
  simp only [CB_trn, Bool.not_false, Bool.not_true]
theorem Turn_eq {n : Nat} {A : List Arc} (hm : A.length ≤ 1000000) : graph_Graph_Turn (some (gr n A), ()) = some (some (gr n (trn A)), ()) := by
  have l1 : ∀ u v w z : List Int, lim graph_Graph_Turn_l10_step (((n : Int), List.replicate A.length (((0 : Int), (0 : Int), ()) : V_easementref08_Pair), u, v, w, z, ()), A, (A.length : Int), (0 : Int), ()) = some (.inl (((n : Int), trn A, u, v, w, z, ()), ())) := fun u v w z => by
    have := lim_up (step := graph_Graph_Turn_l10_step) (y := .inl (((n : Int), trn A, u, v, w, z, ()), ())) (fun i => (((n : Int), (trn A).take i ++ List.replicate (A.length - i) (((0 : Int), (0 : Int), ()) : V_easementref08_Pair), u, v, w, z, ()), A, (A.length : Int), (i : Int), ())) A.length (fun g i hi => ?_) (fun g => ?_)
    · simpa using this
    · have hlen : ((trn A).take i ++ List.replicate (A.length - i) (((0 : Int), (0 : Int), ()) : V_easementref08_Pair)).length = A.length := by
        simp [trn]
        omega
      unfold graph_Graph_Turn_l10_step
      simp only [dlt hi, cond_true, inB_nat hi, ck_true, hlen, rdL_arc hi, wrap_succ (show i < 9223372036854775807 by omega), Int.toNat_natCast]
      congr 3
      refine congrArg (fun t => (t, u, v, w, z, ())) ?_
      apply List.ext_getElem?
      intro k
      have ht : i < (trn A).length := by rw [trn_len]; exact hi
      rw [List.getElem?_set, hlen]
      by_cases hk : i = k
      · subst hk
        rw [if_pos rfl, if_pos hi, List.getElem?_append_left (by rw [List.length_take, trn_len]; omega), List.getElem?_take_of_lt (by omega), List.getElem?_eq_getElem ht]
        simp [trn]
      · rw [if_neg hk]
        by_cases hlt : k < i
        · rw [List.getElem?_append_left (by rw [List.length_take, trn_len]; omega), List.getElem?_append_left (by rw [List.length_take, trn_len]; omega), List.getElem?_take_of_lt hlt, List.getElem?_take_of_lt (by omega)]
        · rw [List.getElem?_append_right (by rw [List.length_take, trn_len]; omega), List.getElem?_append_right (by rw [List.length_take, trn_len]; omega), List.length_take, List.length_take, trn_len]
          rw [List.getElem?_replicate, List.getElem?_replicate]
          by_cases hkl : k < A.length
          · rw [if_pos (by omega), if_pos (by omega)]
          · rw [if_neg (by omega), if_neg (by omega)]
    · unfold graph_Graph_Turn_l10_step
      simp only [dge (Nat.lt_irrefl _), cond_false]
      rw [← trn_len A, List.take_length, Nat.sub_self]
      simp
  unfold graph_Graph_Turn
  simp only [Option.isNone_some, Option.isSome_some, cond_false, ck_true, Option.getD_some]
  have e1 : (gr n A).2.1 = A := rfl
  simp only [e1]
  rw [show (decide ((0 : Int) ≤ (A.length : Int)) && decide ((A.length : Int) ≤ (A.length : Int)) && decide ((A.length : Int) * ((19 : Nat) : Int) ≤ 35184372088832)) = true from by simp; omega, ck_true, Int.toNat_natCast]
  rw [gr_trn]
  change Option.bind (lim graph_Graph_Turn_l10_step (((n : Int), List.replicate A.length (((0 : Int), (0 : Int), ()) : V_easementref08_Pair), tab A.length (outF true A A.length), tab A.length (outF false A A.length), tab (n + 1) (fun j => (CB true A j : Nat)), tab (n + 1) (fun j => (CB false A j : Nat)), ()), A, (A.length : Int), (0 : Int), ())) _ = _
  rw [l1]
  rfl
end Go.XD

/- Plain law: Tarjan's walk as a machine of its own, its invariant, and what it finds: no program in sight. -/
namespace Go.XD

/-- Arcs lead from one to the other. -/
inductive RT (nx : Nat → List Nat) : Nat → Nat → Prop
  | refl (v : Nat) : RT nx v v
  | step {v u w : Nat} : RT nx v u → w ∈ nx u → RT nx v w
theorem RT.trans {nx : Nat → List Nat} {a b c : Nat} (h1 : RT nx a b) (h2 : RT nx b c) : RT nx a c := by
  induction h2 with
  | refl => exact h1
  | step _ hm ih => exact ih.step hm
theorem RT.one {nx : Nat → List Nat} {a b : Nat} (h : b ∈ nx a) : RT nx a b := (RT.refl a).step h
theorem RT.closed {nx : Nat → List Nat} {C : Nat → Prop} (hC : ∀ v, C v → ∀ w ∈ nx v, C w) {a b : Nat} (h : RT nx a b) (ha : C a) : C b := by
  induction h with
  | refl => exact ha
  | step _ hm ih => exact hC _ ih _ hm

/-- A function, but at one place. -/
def upf (f : Nat → Nat) (v x : Nat) : Nat → Nat := fun k => if k = v then x else f k
theorem upf_at (f : Nat → Nat) (v x : Nat) : upf f v x v = x := by simp [upf]
theorem upf_ne (f : Nat → Nat) {v x k : Nat} (h : k ≠ v) : upf f v x k = f k := by simp [upf, h]

/-- The walk's state: the stack, and those gone through, with the top one first. -/
structure TS where
  idx : Nat → Nat
  low : Nat → Nat
  st : List Nat
  fr : List (Nat × List Nat)
  fd : List (List Nat)
  steps : Nat
def TS.fs (s : TS) : List Nat := s.fr.map (·.1)
def TS.op (nx : Nat → List Nat) (s : TS) (c k : Nat) : TS := ⟨upf s.idx c (k + 1), upf s.low c (k + 1), c :: s.st, (c, nx c) :: s.fr, s.fd, k⟩
def Chn : List (Nat × List Nat) → Prop
  | (c, _) :: (v, rest) :: tl => (∃ r, rest = c :: r) ∧ Chn ((v, rest) :: tl)
  | _ => True

structure TI (n : Nat) (nx : Nat → List Nat) (s : TS) : Prop where
  rng : ∀ v, s.idx v ≠ 0 → v < n
  vis : ∀ v, s.idx v ≠ 0 ↔ v ∈ s.st ∨ v ∈ s.fd.flatten
  dis : ∀ v ∈ s.st, v ∉ s.fd.flatten
  nod : s.fd.flatten.Nodup
  ord : s.st.Pairwise (fun a b => s.idx b < s.idx a)
  bnd : ∀ v, s.idx v ≤ s.steps + 1
  frm : ∀ p ∈ s.fr, p.1 ∈ s.st
  fro : s.fr.Pairwise (fun a b => s.idx b.1 < s.idx a.1)
  chn : Chn s.fr
  dne : ∀ v, s.idx v ≠ 0 → v ∉ s.fs → ∀ w ∈ nx v, s.idx w ≠ 0
  par : ∀ p ∈ s.fr, ∃ pre, nx p.1 = pre ++ p.2 ∧ ∀ u ∈ pre, s.idx u ≠ 0 ∧ (u ∈ s.st → s.low p.1 ≤ s.idx u)
  edg : ∀ w ∈ s.st, w ∉ s.fs → ∀ u ∈ nx w, u ∈ s.st → s.low w ≤ s.idx u
  clo : ∀ v ∈ s.fd.flatten, ∀ w ∈ nx v, w ∈ s.fd.flatten
  tpo : ∀ i, i < s.fd.length → ∀ v ∈ s.fd.getD i [], ∀ w ∈ nx v, w ∈ (s.fd.take (i + 1)).flatten
  scc : ∀ c ∈ s.fd, c ≠ [] ∧ ∀ v ∈ c, ∀ w, w ∈ c ↔ RT nx v w ∧ RT nx w v
  rea : ∀ p ∈ s.fr, ∀ w ∈ s.st, s.idx p.1 ≤ s.idx w → RT nx p.1 w
  lw : ∀ w ∈ s.st, s.low w ≤ s.idx w ∧ ∃ u ∈ s.st, s.idx u = s.low w ∧ RT nx w u
  blk : ∀ w ∈ s.st, w ∉ s.fs → s.low w < s.idx w
  seg : ∀ p ∈ s.fr, ∀ w ∈ s.st, w ∉ s.fs → s.idx p.1 < s.idx w → (∃ g ∈ s.fr, s.idx p.1 < s.idx g.1 ∧ s.idx g.1 < s.idx w) ∨ s.low p.1 ≤ s.low w ∨ (∃ c r tl, s.fr = (p.1, c :: r) :: tl ∧ c ∈ s.st ∧ s.idx c ≤ s.idx w ∧ s.low c ≤ s.low w)
  bot : ∀ w ∈ s.st, ∃ p ∈ s.fr, s.idx p.1 ≤ s.idx w

theorem fs_mem {s : TS} {v : Nat} : v ∈ s.fs ↔ ∃ p ∈ s.fr, p.1 = v := by simp [TS.fs]
section
variable {n : Nat} {nx : Nat → List Nat} {s : TS}

theorem TI.st_idx (h : TI n nx s) {v : Nat} (hv : v ∈ s.st) : s.idx v ≠ 0 := (h.vis v).2 (.inl hv)

/-- A node that was not met is begun with. -/
theorem TI.open_ok (h : TI n nx s) {c k : Nat} (hc : c < n) (h0 : s.idx c = 0) (hk : s.steps < k) (hin : s.fr = [] ∨ ∃ v r tl, s.fr = (v, c :: r) :: tl) : TI n nx (s.op nx c k) := by
  have hnc : ∀ v, s.idx v ≠ 0 → v ≠ c := fun v hv e => hv (e ▸ h0)
  have hst : c ∉ s.st := fun hm => h.st_idx hm h0
  have hfd : c ∉ s.fd.flatten := fun hm => (h.vis c).2 (.inr hm) h0
  have e0 : upf s.idx c (k + 1) c = k + 1 := upf_at _ _ _
  have e1 : ∀ v, v ≠ c → upf s.idx c (k + 1) v = s.idx v := fun v hv => upf_ne _ hv
  have l0 : upf s.low c (k + 1) c = k + 1 := upf_at _ _ _
  have l1 : ∀ v, v ≠ c → upf s.low c (k + 1) v = s.low v := fun v hv => upf_ne _ hv
  have s1 : ∀ v ∈ s.st, v ≠ c := fun v hv e => hst (e ▸ hv)
  have f1 : ∀ p ∈ s.fr, p.1 ≠ c := fun p hp => s1 _ (h.frm p hp)
  have nz : ∀ v, s.idx v ≠ 0 → upf s.idx c (k + 1) v ≠ 0 := fun v hv => by rw [e1 v (hnc v hv)]; exact hv
  have efs : (s.op nx c k).fs = c :: s.fs := rfl
  have hb : ∀ v, s.idx v < k + 1 := fun v => by have := h.bnd v; omega
  refine ⟨?_, ?_, ?_, h.nod, ?_, ?_, ?_, ?_, ?_, ?_, ?_, ?_, h.clo, h.tpo, h.scc, ?_, ?_, ?_, ?_, ?_⟩
  · intro v hv
    by_cases e : v = c
    · exact e ▸ hc
    · exact h.rng v (by simpa only [TS.op, e1 v e] using hv)
  · intro v
    by_cases e : v = c
    · subst e; simp [TS.op, e0]
    · simp only [TS.op, e1 v e, List.mem_cons, e, false_or]; exact h.vis v
  · intro v hv
    rcases List.mem_cons.1 hv with rfl | hv
    · exact hfd
    · exact h.dis v hv
  · simp only [TS.op, List.pairwise_cons]
    refine ⟨fun b hb' => by rw [e0, e1 b (s1 b hb')]; exact hb b, h.ord.imp_of_mem fun {a b} ha hb' hlt => by rw [e1 a (s1 a ha), e1 b (s1 b hb')]; exact hlt⟩
  · intro v
    by_cases e : v = c
    · subst e; simp [TS.op, e0]
    · simp only [TS.op, e1 v e]; have := h.bnd v; omega
  · intro p hp
    rcases List.mem_cons.1 hp with rfl | hp
    · exact List.mem_cons_self
    · exact List.mem_cons_of_mem _ (h.frm p hp)
  · simp only [TS.op, List.pairwise_cons]
    refine ⟨fun b hb' => by rw [e0, e1 b.1 (f1 b hb')]; exact hb _, h.fro.imp_of_mem fun {a b} ha hb' hlt => by rw [e1 _ (f1 a ha), e1 _ (f1 b hb')]; exact hlt⟩
  · simp only [TS.op]
    have hch := h.chn
    rcases hin with hin | ⟨v, r, tl, hin⟩
    · rw [hin]; trivial
    · rw [hin] at hch ⊢; exact ⟨⟨r, rfl⟩, hch⟩
  · intro v hv hnf w hw
    rw [efs, List.mem_cons, not_or] at hnf
    simp only [TS.op, e1 v hnf.1] at hv ⊢
    exact nz w (h.dne v hv hnf.2 w hw)
  · intro p hp
    rcases List.mem_cons.1 hp with rfl | hp
    · exact ⟨[], rfl, fun u hu => absurd hu List.not_mem_nil⟩
    · obtain ⟨pre, k1, k2⟩ := h.par p hp
      refine ⟨pre, k1, fun u hu => ?_⟩
      obtain ⟨k3, k4⟩ := k2 u hu
      refine ⟨nz u k3, fun hus => ?_⟩
      have huc := hnc u k3
      simp only [TS.op, l1 _ (f1 p hp), e1 u huc]
      exact k4 (by simpa [TS.op, huc] using hus)
  · intro w hw hnf u hu hus
    rw [efs, List.mem_cons, not_or] at hnf
    have hw' : w ∈ s.st := by simpa [TS.op, hnf.1] using hw
    have hu0 := h.dne w (h.st_idx hw') hnf.2 u hu
    have huc := hnc u hu0
    simp only [TS.op, l1 _ hnf.1, e1 u huc]
    exact h.edg w hw' hnf.2 u hu (by simpa [TS.op, huc] using hus)
  · intro p hp w hw hle
    rcases List.mem_cons.1 hp with hp' | hp'
    · subst hp'
      rcases List.mem_cons.1 hw with hw' | hw'
      · rw [hw']; exact .refl _
      · simp only [TS.op, e0, e1 w (s1 w hw')] at hle
        have := hb w
        omega
    · rcases List.mem_cons.1 hw with hw' | hw'
      · rw [hw']
        rcases hin with hin | ⟨v, r, tl, hin⟩
        · rw [hin] at hp'; exact absurd hp' List.not_mem_nil
        · have hv : (v, c :: r) ∈ s.fr := by rw [hin]; exact List.mem_cons_self
          obtain ⟨pre, k1, _⟩ := h.par _ hv
          have hvw : c ∈ nx v := by rw [show nx v = _ from k1]; simp
          refine RT.step (h.rea p hp' v (h.frm _ hv) ?_) hvw
          have hfo := h.fro
          rw [hin] at hp' hfo
          rw [List.pairwise_cons] at hfo
          rcases List.mem_cons.1 hp' with e | hp'
          · rw [e]; exact Nat.le_refl _
          · exact Nat.le_of_lt (hfo.1 p hp')
      · simp only [TS.op, e1 _ (f1 p hp'), e1 w (s1 w hw')] at hle
        exact h.rea p hp' w hw' hle
  · intro w hw
    rcases List.mem_cons.1 hw with rfl | hw
    · simp only [TS.op, e0, l0]
      exact ⟨Nat.le_refl _, w, List.mem_cons_self, e0, .refl _⟩
    · obtain ⟨k1, u, k2, k3, k4⟩ := h.lw w hw
      simp only [TS.op, l1 w (s1 w hw), e1 w (s1 w hw)]
      exact ⟨k1, u, List.mem_cons_of_mem _ k2, by rw [e1 u (s1 u k2)]; exact k3, k4⟩
  · intro w hw hnf
    rw [efs, List.mem_cons, not_or] at hnf
    have hw' : w ∈ s.st := by simpa [TS.op, hnf.1] using hw
    simp only [TS.op, l1 _ hnf.1, e1 _ hnf.1]
    exact h.blk w hw' hnf.2
  · intro p hp w hw hnf hlt
    rw [efs, List.mem_cons, not_or] at hnf
    have hw' : w ∈ s.st := by simpa [TS.op, hnf.1] using hw
    rcases List.mem_cons.1 hp with rfl | hp
    · simp only [TS.op, e0, e1 w hnf.1] at hlt
      have := hb w
      omega
    · simp only [TS.op, e1 _ (f1 p hp), e1 w hnf.1] at hlt
      rcases h.seg p hp w hw' hnf.2 hlt with ⟨g, k1, k2, k3⟩ | k | ⟨c', r', tl', k1, k2, _, _⟩
      · refine .inl ⟨g, List.mem_cons_of_mem _ k1, ?_⟩
        simp only [TS.op, e1 _ (f1 p hp), e1 w hnf.1, e1 _ (f1 g k1)]
        exact ⟨k2, k3⟩
      · refine .inr (.inl ?_)
        simp only [TS.op, l1 _ (f1 p hp), l1 w hnf.1]
        exact k
      · rcases hin with hin | ⟨v, r, tl, hin⟩
        · rw [hin] at k1; cases k1
        · rw [hin] at k1
          simp only [List.cons.injEq, Prod.mk.injEq] at k1
          exact absurd (k1.1.2.1 ▸ k2) hst
  · intro w hw
    rcases List.mem_cons.1 hw with rfl | hw
    · exact ⟨(w, nx w), List.mem_cons_self, Nat.le_refl _⟩
    · obtain ⟨p, k1, k2⟩ := h.bot w hw
      exact ⟨p, List.mem_cons_of_mem _ k1, by simp only [TS.op, e1 _ (f1 p k1), e1 w (s1 w hw)]; exact k2⟩

/-- The head of what is left is looked at: it was met. -/
theorem TI.pass_off (h : TI n nx s) {v c k : Nat} {r : List Nat} {tl : List (Nat × List Nat)} (hf : s.fr = (v, c :: r) :: tl) (h0 : s.idx c ≠ 0) (hc : c ∉ s.st) (hk : s.steps ≤ k) :
    TI n nx ⟨s.idx, s.low, s.st, (v, r) :: tl, s.fd, k⟩ := by
  have hv : (v, c :: r) ∈ s.fr := by rw [hf]; exact List.mem_cons_self
  have efs : TS.fs ⟨s.idx, s.low, s.st, (v, r) :: tl, s.fd, k⟩ = s.fs := by simp [TS.fs, hf]
  have htl : ∀ p ∈ tl, p ∈ s.fr := fun p hp => by rw [hf]; exact List.mem_cons_of_mem _ hp
  have hfo := h.fro
  have hch := h.chn
  rw [hf] at hfo hch
  rw [List.pairwise_cons] at hfo
  refine ⟨h.rng, h.vis, h.dis, h.nod, h.ord, fun v => by have := h.bnd v; simp only; omega, ?_, ?_, ?_, ?_, ?_, ?_, h.clo, h.tpo, h.scc, ?_, h.lw, ?_, ?_, ?_⟩
  · intro p hp
    rcases List.mem_cons.1 hp with rfl | hp
    · exact h.frm (v, c :: r) hv
    · exact h.frm p (htl p hp)
  · simp only [List.pairwise_cons]; exact hfo
  · simp only
    cases tl with
    | nil => trivial
    | cons q tl => exact hch
  · intro v hv hn; rw [efs] at hn; exact h.dne v hv hn
  · intro p hp
    rcases List.mem_cons.1 hp with rfl | hp
    · obtain ⟨pre, k1, k2⟩ := h.par _ hv
      refine ⟨pre ++ [c], by simpa using k1, fun u hu => ?_⟩
      rcases List.mem_append.1 hu with hu | hu
      · exact k2 u hu
      · have : u = c := by simpa using hu
        subst this
        exact ⟨h0, fun hm => absurd hm hc⟩
    · exact h.par p (htl p hp)
  · intro w hw hn; rw [efs] at hn; exact h.edg w hw hn
  · intro p hp
    rcases List.mem_cons.1 hp with rfl | hp
    · exact h.rea (v, c :: r) hv
    · exact h.rea p (htl p hp)
  · intro w hw hn; rw [efs] at hn; exact h.blk w hw hn
  · intro p hp w hw hn hlt
    rw [efs] at hn
    have key : ∀ q ∈ s.fr, q.1 = p.1 → _ := fun q hq e => h.seg q hq w hw hn (by rw [e]; exact hlt)
    obtain ⟨q, hq, e⟩ : ∃ q ∈ s.fr, q.1 = p.1 := by
      rcases List.mem_cons.1 hp with rfl | hp
      · exact ⟨_, hv, rfl⟩
      · exact ⟨p, htl p hp, rfl⟩
    rcases key q hq e with ⟨g, k1, k2, k3⟩ | k' | ⟨c', r', tl', k1, k2, _, _⟩
    · rw [hf] at k1
      rw [e] at k2
      rcases List.mem_cons.1 k1 with rfl | k1
      · exact .inl ⟨(v, r), List.mem_cons_self, k2, k3⟩
      · exact .inl ⟨g, List.mem_cons_of_mem _ k1, k2, k3⟩
    · exact .inr (.inl (by rw [← e]; exact k'))
    · rw [hf] at k1
      simp only [List.cons.injEq, Prod.mk.injEq] at k1
      exact absurd (k1.1.2.1 ▸ k2) hc
  · intro w hw
    obtain ⟨p, k1, k2⟩ := h.bot w hw
    rw [hf] at k1
    rcases List.mem_cons.1 k1 with rfl | k1
    · exact ⟨(v, r), List.mem_cons_self, k2⟩
    · exact ⟨p, List.mem_cons_of_mem _ k1, k2⟩

theorem TI.pass_on (h : TI n nx s) {v c k : Nat} {r : List Nat} {tl : List (Nat × List Nat)} (hf : s.fr = (v, c :: r) :: tl) (hc : c ∈ s.st) (hk : s.steps ≤ k) :
    TI n nx ⟨s.idx, upf s.low v (min (s.low v) (s.low c)), s.st, (v, r) :: tl, s.fd, k⟩ := by
  have hv : (v, c :: r) ∈ s.fr := by rw [hf]; exact List.mem_cons_self
  have efs : TS.fs ⟨s.idx, upf s.low v (min (s.low v) (s.low c)), s.st, (v, r) :: tl, s.fd, k⟩ = s.fs := by simp [TS.fs, hf]
  have htl : ∀ p ∈ tl, p ∈ s.fr := fun p hp => by rw [hf]; exact List.mem_cons_of_mem _ hp
  have hfo := h.fro
  have hch := h.chn
  rw [hf] at hfo hch
  rw [List.pairwise_cons] at hfo
  have hvf : v ∈ s.fs := fs_mem.2 ⟨_, hv, rfl⟩
  have hne : ∀ w, w ∉ s.fs → w ≠ v := fun w hw e => hw (e ▸ hvf)
  have hpt : ∀ p ∈ tl, p.1 ≠ v := fun p hp e => by have := hfo.1 p hp; simp only [e] at this; omega
  have l0 : upf s.low v (min (s.low v) (s.low c)) v = min (s.low v) (s.low c) := upf_at _ _ _
  have l1 : ∀ w, w ≠ v → upf s.low v (min (s.low v) (s.low c)) w = s.low w := fun w hw => upf_ne _ hw
  have lle : ∀ w, upf s.low v (min (s.low v) (s.low c)) w ≤ s.low w := fun w => by
    by_cases e : w = v
    · subst e; rw [l0]; omega
    · rw [l1 w e]; exact Nat.le_refl _
  have hvc : c ∈ nx v := by
    obtain ⟨pre, k1, _⟩ := h.par _ hv
    rw [show nx v = _ from k1]
    simp
  refine ⟨h.rng, h.vis, h.dis, h.nod, h.ord, fun v => by have := h.bnd v; simp only; omega, ?_, ?_, ?_, ?_, ?_, ?_, h.clo, h.tpo, h.scc, ?_, ?_, ?_, ?_, ?_⟩
  · intro p hp
    rcases List.mem_cons.1 hp with rfl | hp
    · exact h.frm (v, c :: r) hv
    · exact h.frm p (htl p hp)
  · simp only [List.pairwise_cons]; exact hfo
  · simp only
    cases tl with
    | nil => trivial
    | cons q tl => exact hch
  · intro v hv hn; rw [efs] at hn; exact h.dne v hv hn
  · intro p hp
    rcases List.mem_cons.1 hp with rfl | hp
    · obtain ⟨pre, k1, k2⟩ := h.par _ hv
      refine ⟨pre ++ [c], by simpa using k1, fun u hu => ?_⟩
      simp only
      rcases List.mem_append.1 hu with hu | hu
      · exact ⟨(k2 u hu).1, fun hm => Nat.le_trans (lle v) ((k2 u hu).2 hm)⟩
      · have : u = c := by simpa using hu
        subst this
        refine ⟨h.st_idx hc, fun _ => ?_⟩
        rw [l0]
        have := (h.lw u hc).1
        omega
    · obtain ⟨pre, k1, k2⟩ := h.par p (htl p hp)
      exact ⟨pre, k1, fun u hu => ⟨(k2 u hu).1, fun hm => by simp only [l1 _ (hpt p hp)]; exact (k2 u hu).2 hm⟩⟩
  · intro w hw hn u hu hus; rw [efs] at hn; exact Nat.le_trans (lle w) (h.edg w hw hn u hu hus)
  · intro p hp
    rcases List.mem_cons.1 hp with rfl | hp
    · exact h.rea (v, c :: r) hv
    · exact h.rea p (htl p hp)
  · intro w hw
    obtain ⟨k1, u, k2, k3, k4⟩ := h.lw w hw
    refine ⟨Nat.le_trans (lle w) k1, ?_⟩
    by_cases e : w = v
    · subst e
      simp only [l0]
      by_cases hm : s.low w ≤ s.low c
      · exact ⟨u, k2, by rw [k3]; omega, k4⟩
      · obtain ⟨_, u', j2, j3, j4⟩ := h.lw c hc
        exact ⟨u', j2, by rw [j3]; omega, (RT.one hvc).trans j4⟩
    · simp only [l1 w e]
      exact ⟨u, k2, k3, k4⟩
  · intro w hw hn; rw [efs] at hn; exact Nat.lt_of_le_of_lt (lle w) (h.blk w hw hn)
  · intro p hp w hw hn hlt
    rw [efs] at hn
    simp only [l1 w (hne w hn)]
    obtain ⟨q, hq, e⟩ : ∃ q ∈ s.fr, q.1 = p.1 := by
      rcases List.mem_cons.1 hp with rfl | hp
      · exact ⟨_, hv, rfl⟩
      · exact ⟨p, htl p hp, rfl⟩
    rcases h.seg q hq w hw hn (by rw [e]; exact hlt) with ⟨g, k1, k2, k3⟩ | k' | ⟨c', r', tl', k1, k2, k3, k4⟩
    · rw [hf] at k1
      rw [e] at k2
      rcases List.mem_cons.1 k1 with rfl | k1
      · exact .inl ⟨(v, r), List.mem_cons_self, k2, k3⟩
      · exact .inl ⟨g, List.mem_cons_of_mem _ k1, k2, k3⟩
    · exact .inr (.inl (Nat.le_trans (lle _) (by rw [← e]; exact k')))
    · rw [hf] at k1
      simp only [List.cons.injEq, Prod.mk.injEq] at k1
      refine .inr (.inl ?_)
      rw [← e, ← k1.1.1, l0]
      rw [← k1.1.2.1] at k4
      omega
  · intro w hw
    obtain ⟨p, k1, k2⟩ := h.bot w hw
    rw [hf] at k1
    rcases List.mem_cons.1 k1 with rfl | k1
    · exact ⟨(v, r), List.mem_cons_self, k2⟩
    · exact ⟨p, List.mem_cons_of_mem _ k1, k2⟩

/-- All arcs of the top one are gone through, and it isn't a component's first one. -/
theorem TI.keep (h : TI n nx s) {v : Nat} {tl : List (Nat × List Nat)} (hf : s.fr = (v, []) :: tl) (hne : s.low v ≠ s.idx v) :
    TI n nx ⟨s.idx, s.low, s.st, tl, s.fd, s.steps⟩ := by
  have hv : (v, []) ∈ s.fr := by rw [hf]; exact List.mem_cons_self
  have htl : ∀ p ∈ tl, p ∈ s.fr := fun p hp => by rw [hf]; exact List.mem_cons_of_mem _ hp
  have hfo := h.fro
  have hch := h.chn
  rw [hf] at hfo hch
  rw [List.pairwise_cons] at hfo
  have hvs : v ∈ s.st := h.frm _ hv
  have hlv : s.low v < s.idx v := by have := (h.lw v hvs).1; omega
  have hcase : ∀ g ∈ s.fr, g.1 = v ∨ g ∈ tl := fun g hg => by
    rw [hf] at hg
    rcases List.mem_cons.1 hg with e | hg
    · exact .inl (by rw [e])
    · exact .inr hg
  have efs : ∀ w, w ∉ TS.fs ⟨s.idx, s.low, s.st, tl, s.fd, s.steps⟩ → w = v ∨ w ∉ s.fs := fun w hw => by
    by_cases e : w = v
    · exact .inl e
    · refine .inr fun hm => hw ?_
      obtain ⟨g, k1, k2⟩ := fs_mem.1 hm
      rcases hcase g k1 with k | k
      · exact absurd (k2.symm.trans k) e
      · exact fs_mem.2 ⟨g, k, k2⟩
  obtain ⟨f, r, tl', rfl⟩ : ∃ f r tl', tl = (f, v :: r) :: tl' := by
    cases tl with
    | nil =>
      obtain ⟨_, u, k1, k2, _⟩ := h.lw v hvs
      obtain ⟨p, k3, k4⟩ := h.bot u k1
      rcases hcase p k3 with k | k
      · rw [k] at k4; omega
      · exact absurd k List.not_mem_nil
    | cons q tl =>
      obtain ⟨f, rest⟩ := q
      obtain ⟨⟨r, e⟩, _⟩ := hch
      exact ⟨f, r, tl, by rw [e]⟩
  have hfv : s.idx f < s.idx v := hfo.1 _ List.mem_cons_self
  have hfo2 := hfo.2
  rw [List.pairwise_cons] at hfo2
  obtain ⟨pv, e1, e2⟩ := h.par _ hv
  simp only [List.append_nil] at e1
  have hlow : ∀ w ∈ s.st, w ∉ s.fs → s.idx v < s.idx w → s.low v ≤ s.low w := fun w hw hn hlt => by
    rcases h.seg _ hv w hw hn hlt with ⟨g, k1, k2, _⟩ | k | ⟨c, r, t, k1, _⟩
    · rcases hcase g k1 with k | k
      · rw [k] at k2; exact absurd k2 (Nat.lt_irrefl _)
      · have h2 : s.idx g.1 < s.idx v := hfo.1 g k
        have h3 : s.idx v < s.idx g.1 := k2
        omega
    · exact k
    · rw [hf] at k1; cases k1
  refine ⟨h.rng, h.vis, h.dis, h.nod, h.ord, h.bnd, fun p hp => h.frm p (htl p hp), hfo.2, hch.2, ?_, fun p hp => h.par p (htl p hp), ?_, h.clo, h.tpo, h.scc, fun p hp => h.rea p (htl p hp), h.lw, ?_, ?_, ?_⟩
  · intro w hw hn u hu
    rcases efs w hn with e | e
    · rw [e, e1] at hu; exact (e2 u hu).1
    · exact h.dne w hw e u hu
  · intro w hw hn u hu hus
    rcases efs w hn with e | e
    · rw [e, e1] at hu; rw [e]; exact (e2 u hu).2 hus
    · exact h.edg w hw e u hu hus
  · intro w hw hn
    rcases efs w hn with e | e
    · rw [e]; exact hlv
    · exact h.blk w hw e
  · intro p hp w hw hn hlt
    have hge : s.idx v ≤ s.idx w → s.low v ≤ s.low w → (∃ g ∈ (f, v :: r) :: tl', s.idx p.1 < s.idx g.1 ∧ s.idx g.1 < s.idx w) ∨ s.low p.1 ≤ s.low w ∨ (∃ c r1 tl1, (f, v :: r) :: tl' = (p.1, c :: r1) :: tl1 ∧ c ∈ s.st ∧ s.idx c ≤ s.idx w ∧ s.low c ≤ s.low w) := fun k1 k2 => by
      rcases List.mem_cons.1 hp with e | hp'
      · exact .inr (.inr ⟨v, r, tl', by rw [e], hvs, k1, k2⟩)
      · exact .inl ⟨(f, v :: r), List.mem_cons_self, hfo2.1 p hp', by simp only; omega⟩
    rcases efs w hn with e | e
    · rw [e]; rw [e] at hge; exact hge (Nat.le_refl _) (Nat.le_refl _)
    · rcases h.seg p (htl p hp) w hw e hlt with ⟨g, k1, k2, k3⟩ | k | ⟨c, r1, t, k1, _⟩
      · rcases hcase g k1 with k | k
        · rw [k] at k3; exact hge (Nat.le_of_lt k3) (hlow w hw e k3)
        · exact .inl ⟨g, k, k2, k3⟩
      · exact .inr (.inl k)
      · rw [hf] at k1
        simp only [List.cons.injEq, Prod.mk.injEq] at k1
        exact absurd k1.1.2 (by simp)
  · intro w hw
    obtain ⟨p, k1, k2⟩ := h.bot w hw
    rcases hcase p k1 with k | k
    · exact ⟨(f, v :: r), List.mem_cons_self, by rw [k] at k2; simp only; omega⟩
    · exact ⟨p, k, k2⟩

/-- All arcs of the top one are gone through, and it is a component's first one. -/
theorem TI.pop (h : TI n nx s) {v : Nat} {tl : List (Nat × List Nat)} {pre post : List Nat} (hf : s.fr = (v, []) :: tl) (heq : s.low v = s.idx v) (hst : s.st = pre ++ v :: post) :
    TI n nx ⟨s.idx, s.low, post, tl, s.fd ++ [pre ++ [v]], s.steps⟩ := by
  have hv : (v, []) ∈ s.fr := by rw [hf]; exact List.mem_cons_self
  have htl : ∀ p ∈ tl, p ∈ s.fr := fun p hp => by rw [hf]; exact List.mem_cons_of_mem _ hp
  have hfo := h.fro
  have hch := h.chn
  have hord := h.ord
  rw [hf] at hfo hch
  rw [hst] at hord
  rw [List.pairwise_cons] at hfo
  rw [List.pairwise_append, List.pairwise_cons] at hord
  obtain ⟨o1, ⟨o2, o3⟩, o4⟩ := hord
  have hvs : v ∈ s.st := h.frm _ hv
  have hpre : ∀ w ∈ pre, s.idx v < s.idx w := fun w hw => o4 w hw v List.mem_cons_self
  have hpost : ∀ w ∈ post, s.idx w < s.idx v := o2
  have hS : ∀ w, w ∈ pre ++ [v] ↔ w ∈ s.st ∧ s.idx v ≤ s.idx w := fun w => by
    rw [hst]
    simp only [List.mem_append, List.mem_cons, List.not_mem_nil, or_false]
    constructor
    · rintro (k | k)
      · exact ⟨.inl k, Nat.le_of_lt (hpre w k)⟩
      · exact ⟨.inr (.inl k), by rw [k]; exact Nat.le_refl _⟩
    · rintro ⟨k | k | k, k'⟩
      · exact .inl k
      · exact .inr k
      · have := hpost w k; omega
  have hP : ∀ w, w ∈ post ↔ w ∈ s.st ∧ s.idx w < s.idx v := fun w => by
    rw [hst]
    simp only [List.mem_append, List.mem_cons]
    constructor
    · intro k; exact ⟨.inr (.inr k), hpost w k⟩
    · rintro ⟨k | k | k, k'⟩
      · have := hpre w k; omega
      · rw [k] at k'; exact absurd k' (Nat.lt_irrefl _)
      · exact k
  have hcase : ∀ g ∈ s.fr, g.1 = v ∨ g ∈ tl := fun g hg => by
    rw [hf] at hg
    rcases List.mem_cons.1 hg with e | hg
    · exact .inl (by rw [e])
    · exact .inr hg
  have htp : ∀ p ∈ tl, p.1 ∈ post := fun p hp => (hP _).2 ⟨h.frm p (htl p hp), hfo.1 p hp⟩
  obtain ⟨pv, e1, e2⟩ := h.par _ hv
  simp only [List.append_nil] at e1
  have hpn : ∀ w ∈ pre, w ∉ s.fs := fun w hw hm => by
    obtain ⟨g, k1, k2⟩ := fs_mem.1 hm
    have := hpre w hw
    rcases hcase g k1 with k | k
    · rw [← k2, k] at this; omega
    · have := hfo.1 g k; rw [k2] at this; simp only at this; omega
  have hps : ∀ w ∈ pre, w ∈ s.st := fun w hw => by rw [hst]; exact List.mem_append_left _ hw
  have hlow : ∀ w ∈ pre, s.idx v ≤ s.low w := fun w hw => by
    rw [← heq]
    rcases h.seg _ hv w (hps w hw) (hpn w hw) (hpre w hw) with ⟨g, k1, k2, _⟩ | k | ⟨c, r, t, k1, _⟩
    · rcases hcase g k1 with k | k
      · rw [k] at k2; exact absurd k2 (Nat.lt_irrefl _)
      · have h2 : s.idx g.1 < s.idx v := hfo.1 g k
        have h3 : s.idx v < s.idx g.1 := k2
        omega
    · exact k
    · rw [hf] at k1; cases k1
  have hback : ∀ m w, w ∈ pre → s.idx w < m → RT nx w v := by
    intro m
    induction m with
    | zero => intro w _ hm; omega
    | succ m ih =>
      intro w hw hm
      have hb := h.blk w (hps w hw) (hpn w hw)
      obtain ⟨_, u, k1, k2, k3⟩ := h.lw w (hps w hw)
      have hl := hlow w hw
      have hu : u ∈ pre ++ [v] := (hS u).2 ⟨k1, by omega⟩
      rcases List.mem_append.1 hu with hu | hu
      · exact k3.trans (ih u hu (by omega))
      · have : u = v := by simpa using hu
        exact this ▸ k3
  have hbk : ∀ w ∈ pre ++ [v], RT nx w v := fun w hw => by
    rcases List.mem_append.1 hw with k | k
    · exact hback (s.idx w + 1) w k (Nat.lt_succ_self _)
    · have : w = v := by simpa using k
      rw [this]; exact .refl _
  have hfw : ∀ w ∈ pre ++ [v], RT nx v w := fun w hw => h.rea _ hv w ((hS w).1 hw).1 ((hS w).1 hw).2
  have hfl : (s.fd ++ [pre ++ [v]]).flatten = s.fd.flatten ++ (pre ++ [v]) := by simp
  have hclo : ∀ w ∈ pre ++ [v], ∀ u ∈ nx w, u ∈ s.fd.flatten ++ (pre ++ [v]) := fun w hw u hu => by
    have hvis : s.idx u ≠ 0 ∧ (u ∈ s.st → s.idx v ≤ s.idx u) := by
      rcases List.mem_append.1 hw with k | k
      · refine ⟨h.dne w (h.st_idx (hps w k)) (hpn w k) u hu, fun hus => ?_⟩
        exact Nat.le_trans (hlow w k) (h.edg w (hps w k) (hpn w k) u hu hus)
      · have e : w = v := by simpa using k
        rw [e, e1] at hu
        exact ⟨(e2 u hu).1, fun hus => by rw [← heq]; exact (e2 u hu).2 hus⟩
    rcases (h.vis u).1 hvis.1 with k | k
    · exact List.mem_append_right _ ((hS u).2 ⟨k, hvis.2 k⟩)
    · exact List.mem_append_left _ k
  have hcl : ∀ w ∈ s.fd.flatten ++ (pre ++ [v]), ∀ u ∈ nx w, u ∈ s.fd.flatten ++ (pre ++ [v]) := fun w hw u hu => by
    rcases List.mem_append.1 hw with k | k
    · exact List.mem_append_left _ (h.clo w k u hu)
    · exact hclo w k u hu
  have efs : ∀ w ∈ post, w ∉ TS.fs ⟨s.idx, s.low, post, tl, s.fd ++ [pre ++ [v]], s.steps⟩ → w ∈ s.st ∧ w ∉ s.fs := fun w hw hn => by
    refine ⟨((hP w).1 hw).1, fun hm => ?_⟩
    obtain ⟨g, k1, k2⟩ := fs_mem.1 hm
    rcases hcase g k1 with k | k
    · have := hpost w hw
      rw [← k2, k] at this
      omega
    · exact hn (fs_mem.2 ⟨g, k, k2⟩)
  refine ⟨h.rng, ?_, ?_, ?_, o3, h.bnd, htp, hfo.2, ?_, ?_, ?_, ?_, ?_, ?_, ?_, ?_, ?_, ?_, ?_, ?_⟩
  · intro w
    simp only [hfl]
    rw [h.vis w, hst]
    simp only [List.mem_append, List.mem_cons, List.not_mem_nil, or_false]
    grind
  · intro w hw
    simp only [hfl]
    intro hm
    rcases List.mem_append.1 hm with k | k
    · exact h.dis w ((hP w).1 hw).1 k
    · have := ((hS w).1 k).2; have := hpost w hw; omega
  · simp only [hfl]
    rw [List.nodup_append]
    refine ⟨h.nod, ?_, fun a ha b hb e => h.dis b ((hS b).1 hb).1 (e ▸ ha)⟩
    rw [List.nodup_append]
    exact ⟨o1.imp fun {a b} hab e => by rw [e] at hab; omega, by simp, fun a ha b hb e => by
      have hb' : b = v := by simpa using hb
      have := hpre a ha
      rw [e, hb'] at this
      exact Nat.lt_irrefl _ this⟩
  · simp only
    cases tl with
    | nil => trivial
    | cons q tl => exact hch.2
  · intro w hw hn u hu
    by_cases hws : w ∈ s.st ∧ s.idx v ≤ s.idx w
    · have := hclo w ((hS w).2 hws) u hu
      rcases List.mem_append.1 this with k | k
      · exact (h.vis u).2 (.inr k)
      · exact (h.vis u).2 (.inl ((hS u).1 k).1)
    · refine h.dne w hw (fun hm => ?_) u hu
      obtain ⟨g, k1, k2⟩ := fs_mem.1 hm
      rcases hcase g k1 with k | k
      · exact hws ⟨by rw [← k2, k]; exact hvs, by rw [← k2, k]; exact Nat.le_refl _⟩
      · exact hn (fs_mem.2 ⟨g, k, k2⟩)
  · intro p hp
    obtain ⟨q, k1, k2⟩ := h.par p (htl p hp)
    exact ⟨q, k1, fun u hu => ⟨(k2 u hu).1, fun hm => (k2 u hu).2 ((hP u).1 hm).1⟩⟩
  · intro w hw hn u hu hus
    obtain ⟨k1, k2⟩ := efs w hw hn
    exact h.edg w k1 k2 u hu ((hP u).1 hus).1
  · simp only [hfl]; exact hcl
  · intro i hi w hw u hu
    simp only [List.length_append, List.length_singleton] at hi
    by_cases e : i < s.fd.length
    · have e1 : (s.fd ++ [pre ++ [v]]).getD i [] = s.fd.getD i [] := by simp [List.getD_eq_getElem?_getD, List.getElem?_append_left e]
      rw [e1] at hw
      simp only
      rw [List.take_append_of_le_length (by omega)]
      exact h.tpo i e w hw u hu
    · have ei : i = s.fd.length := by omega
      have e1 : (s.fd ++ [pre ++ [v]]).getD i [] = pre ++ [v] := by simp [List.getD_eq_getElem?_getD, ei]
      rw [e1] at hw
      simp only
      rw [List.take_of_length_le (by simp; omega), hfl]
      exact hclo w hw u hu
  · intro c hc
    rcases List.mem_append.1 hc with k | k
    · exact h.scc c k
    · have e : c = pre ++ [v] := by simpa using k
      subst e
      refine ⟨by simp, fun a ha w => ⟨fun hw => ⟨(hbk a ha).trans (hfw w hw), (hbk w hw).trans (hfw a ha)⟩, fun ⟨k1, k2⟩ => ?_⟩⟩
      have hw := k1.closed (C := fun u => u ∈ s.fd.flatten ++ (pre ++ [v])) hcl (List.mem_append_right _ ha)
      rcases List.mem_append.1 hw with k | k
      · have := k2.closed (C := fun u => u ∈ s.fd.flatten) h.clo k
        exact absurd this (h.dis a ((hS a).1 ha).1)
      · exact k
  · intro p hp w hw hle
    exact h.rea p (htl p hp) w ((hP w).1 hw).1 hle
  · intro w hw
    obtain ⟨k1, u, k2, k3, k4⟩ := h.lw w ((hP w).1 hw).1
    have := hpost w hw
    exact ⟨k1, u, (hP u).2 ⟨k2, by omega⟩, k3, k4⟩
  · intro w hw hn
    obtain ⟨k1, k2⟩ := efs w hw hn
    exact h.blk w k1 k2
  · intro p hp w hw hn hlt
    obtain ⟨k1, k2⟩ := efs w hw hn
    rcases h.seg p (htl p hp) w k1 k2 hlt with ⟨g, j1, j2, j3⟩ | k | ⟨c, r1, t, j1, _⟩
    · rcases hcase g j1 with k | k
      · have := hpost w hw
        rw [k] at j3
        omega
      · exact .inl ⟨g, k, j2, j3⟩
    · exact .inr (.inl k)
    · rw [hf] at j1
      simp only [List.cons.injEq, Prod.mk.injEq] at j1
      exact absurd j1.1.2 (by simp)
  · intro w hw
    obtain ⟨p, k1, k2⟩ := h.bot w ((hP w).1 hw).1
    rcases hcase p k1 with k | k
    · have := hpost w hw
      rw [k] at k2
      omega
    · exact ⟨p, k, k2⟩

/-! ### What is counted -/
def WT (n : Nat) (f : Nat → Nat) : Nat := ((List.range n).map f).sum
theorem WT_succ (n : Nat) (f : Nat → Nat) : WT (n + 1) f = WT n f + f n := by simp [WT, List.range_succ]
theorem WT_ext {n : Nat} {f g : Nat → Nat} (h : ∀ k, k < n → g k = f k) : WT n g = WT n f := by
  induction n with
  | zero => rfl
  | succ n ih => rw [WT_succ, WT_succ, ih fun k hk => h k (by omega), h n (by omega)]
theorem WT_upd {n : Nat} {f g : Nat → Nat} {c : Nat} (hc : c < n) (h : ∀ k, k ≠ c → g k = f k) : WT n g + f c = WT n f + g c := by
  induction n with
  | zero => omega
  | succ n ih =>
    rw [WT_succ, WT_succ]
    by_cases e : c = n
    · subst e
      have := WT_ext (n := c) (f := f) (g := g) fun k hk => h k (by omega)
      omega
    · have := ih (by omega)
      have := h n (fun e' => e e'.symm)
      omega
def unF (nx : Nat → List Nat) (idx : Nat → Nat) (v : Nat) : Nat := if idx v = 0 then (nx v).length + 2 else 0
def unU (idx : Nat → Nat) (v : Nat) : Nat := if idx v = 0 then 1 else 0
def frM (fr : List (Nat × List Nat)) : Nat := (fr.map fun p => p.2.length).sum
def TS.M (n : Nat) (nx : Nat → List Nat) (s : TS) : Nat := frM s.fr + WT n (unF nx s.idx)
structure TC (n : Nat) (nx : Nat → List Nat) (T : Nat) (s : TS) : Prop where
  up : s.steps + s.M n nx ≤ T
  dn : n ≤ s.steps + WT n (unU s.idx)
theorem TS.M_op {c k : Nat} (hc : c < n) (h0 : s.idx c = 0) : (s.op nx c k).M n nx + 2 = s.M n nx ∧ WT n (unU (s.op nx c k).idx) + 1 = WT n (unU s.idx) := by
  have h1 := WT_upd (f := unF nx s.idx) (g := unF nx (s.op nx c k).idx) hc fun j hj => by simp [unF, TS.op, upf_ne _ hj]
  have h2 := WT_upd (f := unU s.idx) (g := unU (s.op nx c k).idx) hc fun j hj => by simp [unU, TS.op, upf_ne _ hj]
  have h3 : unF nx s.idx c = (nx c).length + 2 := by simp [unF, h0]
  have h4 : unF nx (s.op nx c k).idx c = 0 := by simp [unF, TS.op, upf_at]
  have h5 : unU s.idx c = 1 := by simp [unU, h0]
  have h6 : unU (s.op nx c k).idx c = 0 := by simp [unU, TS.op, upf_at]
  have h7 : frM (s.op nx c k).fr = (nx c).length + frM s.fr := by simp [frM, TS.op]
  unfold TS.M
  omega
theorem TC.op {T c k : Nat} (h : TC n nx T s) (hc : c < n) (h0 : s.idx c = 0) (hk : s.steps < k) (hk2 : k ≤ s.steps + 2) : TC n nx T (s.op nx c k) := by
  obtain ⟨h1, h2⟩ := TS.M_op (nx := nx) (k := k) hc h0
  have := h.up
  have := h.dn
  exact ⟨by simp only [TS.op] at *; omega, by simp only [TS.op] at *; omega⟩
theorem TS.M_pass {v c k : Nat} {r : List Nat} {tl : List (Nat × List Nat)} (hf : s.fr = (v, c :: r) :: tl) (low : Nat → Nat) : TS.M n nx ⟨s.idx, low, s.st, (v, r) :: tl, s.fd, k⟩ + 1 = s.M n nx := by
  unfold TS.M
  rw [hf]
  simp only [frM, List.map_cons, List.sum_cons, List.length_cons]
  omega
theorem TS.M_close {v : Nat} {tl : List (Nat × List Nat)} (hf : s.fr = (v, []) :: tl) (low : Nat → Nat) (st : List Nat) (fd : List (List Nat)) : TS.M n nx ⟨s.idx, low, st, tl, fd, s.steps⟩ = s.M n nx := by
  unfold TS.M
  rw [hf]
  simp [frM]
end
end Go.XD

/- Plain law of the scc package: what opens, the scan, and closes do to the walk's state. -/
namespace Go.XD

/-- Where arcs lead from a node. -/
def nxN (A : List Arc) (v : Nat) : List Nat := (nxt A v).map Int.toNat
theorem nxt_nxN {n : Nat} {A : List Arc} (hA : InR n A) (v : Nat) : nxt A v = ofN (nxN A v) := by
  unfold nxN ofN
  rw [List.map_map]
  have : ∀ l : List Int, (∀ x ∈ l, 0 ≤ x) → l = l.map ((fun (j : Nat) => (j : Int)) ∘ Int.toNat) := fun l hl => by
    induction l with
    | nil => rfl
    | cons a l ih =>
      rw [List.map_cons, ← ih fun x hx => hl x (List.mem_cons_of_mem _ hx)]
      have := hl a List.mem_cons_self
      simp only [Function.comp_apply]
      congr 1
      omega
  exact this _ fun x hx => (nxt_in hA hx).1
theorem nxN_lt {n : Nat} {A : List Arc} (hA : InR n A) {v w : Nat} (h : w ∈ nxN A v) : w < n := by
  unfold nxN at h
  obtain ⟨x, hx, rfl⟩ := List.mem_map.1 h
  have := nxt_in hA hx
  omega
theorem nxN_mem {n : Nat} {A : List Arc} (hA : InR n A) {v w : Nat} : w ∈ nxN A v ↔ ∃ a ∈ A, ndN false a = v ∧ ndN true a = w := by
  unfold nxN
  rw [List.mem_map]
  constructor
  · rintro ⟨x, hx, rfl⟩
    obtain ⟨a, h1, h2, h3⟩ := nxt_mem.1 hx
    exact ⟨a, h1, h2, by simp [ndN, nd, h3]⟩
  · rintro ⟨a, h1, h2, h3⟩
    exact ⟨a.2.1, nxt_mem.2 ⟨a, h1, h2, rfl⟩, h3⟩
theorem nxN_len (A : List Arc) (v : Nat) : (nxN A v).length ≤ A.length := by
  unfold nxN nxt sel
  rw [List.length_map, List.length_map]
  exact Nat.le_trans (List.length_filter_le _ _) (by simp)

/-- The finder of a state. -/
def fr1 (p : Nat × List Nat) : V_scc_call := ((p.1 : Int), ofN p.2, ())
def onF (st : List Nat) (v : Nat) : Int := if v ∈ st then 1 else 0
def enc (G : Option V_graph_Graph) (n : Nat) (idx low : Nat → Nat) (st : List Nat) (fr : List (Nat × List Nat)) (fd : List (List Nat)) (k : Nat) : V_scc_finder :=
  (G, tab n (fun v => (idx v : Int)), tab n (fun v => (low v : Int)), ofN st.reverse, tab n (onF st), fr.reverse.map fr1, fd.map (fun c => srt (ofN c)), (k : Int), ())
theorem ofN_append (a b : List Nat) : ofN (a ++ b) = ofN a ++ ofN b := by simp [ofN]
theorem ofN_len (a : List Nat) : (ofN a).length = a.length := by simp [ofN]
theorem onF_cons {st : List Nat} {c v : Nat} (h : v ≠ c) : onF (c :: st) v = onF st v := by simp [onF, h]

section
variable {n : Nat} {A : List Arc} (hA : InR n A) (hn : n ≤ 1000000) (hm : A.length ≤ 1000000)
include hA hn hm
theorem opens_eq {idx low : Nat → Nat} {st : List Nat} {fr : List (Nat × List Nat)} {fd : List (List Nat)} {k v : Nat} (hv : v < n) (hk : k ≤ 1000000000) (hst : st.length ≤ 1000000) (hfr : fr.length ≤ 1000000) :
    scc_finder_opens_p0 (enc (some (gr n A)) n idx low st fr fd k, (v : Int), ()) = some (.inl (enc (some (gr n A)) n (upf idx v (k + 2)) (upf low v (k + 2)) (v :: st) ((v, nxN A v) :: fr) fd (k + 1), ())) := by
  unfold scc_finder_opens_p0 enc
  simp only [tab_len, inB_nat hv, ck_true, Int.toNat_natCast]
  rw [wrap64 (n := (k : Int) + 1) (by omega) (by omega), wrap64 (n := (1 : Int) + ((k : Int) + 1)) (by omega) (by omega)]
  unfold stack_Stack_int_Push_p0
  simp only
  rw [roomB_ok (by simp [ofN_len]; omega), ck_true]
  simp only [Option.bind_some, out1_inl]
  rw [Next_eq hA (by omega) (by omega) hv]
  simp only [Option.bind_some]
  unfold stack_Stack_scc_call_Push_p0
  simp only
  rw [roomB_ok (by simp; omega), ck_true]
  simp only [Option.bind_some, out1_inl]
  rw [tab_set (g' := fun j => (upf idx v (k + 2) j : Int)) (by rw [upf_at]; push_cast; omega) (fun j hj => by rw [upf_ne _ hj])]
  rw [tab_set (g' := fun j => (upf low v (k + 2) j : Int)) (by rw [upf_at]; push_cast; omega) (fun j hj => by rw [upf_ne _ hj])]
  rw [tab_set (g' := onF (v :: st)) (by simp [onF]) (fun j hj => onF_cons hj)]
  rw [nxt_nxN hA]
  simp only [List.reverse_cons, ofN_append, List.map_append, List.map_cons, List.map_nil]
  rfl
end

theorem ipop_eq {G : Option V_graph_Graph} {a b l e : List Int} {f : List V_scc_call} {g : List (List Int)} {k w : Int} (hl : l.length ≤ 1000000) :
    stack_Stack_int_Pop_p0 ((G, a, b, l ++ [w], e, f, g, k, ()), ()) = some (.inl (w, true, (G, a, b, l, e, f, g, k, ()), ())) := by
  unfold stack_Stack_int_Pop_p0 stack_Stack_int_Top_p0 stack_Stack_int_Len_p0
  simp only [Option.bind_some, out1_inl]
  have hlen : (l ++ [w]).length = l.length + 1 := by simp
  rw [hlen]
  rw [show (((l.length + 1 : Nat) : Int) == 0) = false from by rw [beq_eq_false_iff_ne]; omega, cond_false]
  rw [wrap64 (n := ((l.length + 1 : Nat) : Int) - 1) (by omega) (by omega), show ((l.length + 1 : Nat) : Int) - 1 = (l.length : Nat) from by omega]
  rw [inB_nat (by omega), ck_true]
  simp only [Option.bind_some, out1_inl, Int.toNat_natCast]
  unfold stack_Stack_int_Pop_p0_j25_v
  simp only [cond_true, hlen, List.length_set]
  rw [wrap64 (n := ((l.length + 1 : Nat) : Int) - 1) (by omega) (by omega), show ((l.length + 1 : Nat) : Int) - 1 = (l.length : Nat) from by omega]
  rw [inB_nat (by omega), ck_true]
  rw [show (decide ((0 : Int) ≤ ((l.length : Nat) : Int)) && decide (((l.length : Nat) : Int) ≤ ((l.length + 1 : Nat) : Int))) = true from by simp; omega, ck_true]
  simp only [Option.bind_some, out1_inl, Int.toNat_natCast]
  simp
theorem cpop_eq {G : Option V_graph_Graph} {a b d e : List Int} {l : List V_scc_call} {g : List (List Int)} {k : Int} {w : V_scc_call} (hl : l.length ≤ 1000000) :
    stack_Stack_scc_call_Pop_p0 ((G, a, b, d, e, l ++ [w], g, k, ()), ()) = some (.inl (w, true, (G, a, b, d, e, l, g, k, ()), ())) := by
  unfold stack_Stack_scc_call_Pop_p0 stack_Stack_scc_call_Top_p0 stack_Stack_scc_call_Len_p0
  simp only [Option.bind_some, out1_inl]
  have hlen : (l ++ [w]).length = l.length + 1 := by simp
  rw [hlen]
  rw [show (((l.length + 1 : Nat) : Int) == 0) = false from by rw [beq_eq_false_iff_ne]; omega, cond_false]
  rw [wrap64 (n := ((l.length + 1 : Nat) : Int) - 1) (by omega) (by omega), show ((l.length + 1 : Nat) : Int) - 1 = (l.length : Nat) from by omega]
  rw [inB_nat (by omega), ck_true]
  simp only [Option.bind_some, out1_inl, Int.toNat_natCast]
  unfold stack_Stack_scc_call_Pop_p0_j25_v
  simp only [cond_true, hlen, List.length_set]
  rw [wrap64 (n := ((l.length + 1 : Nat) : Int) - 1) (by omega) (by omega), show ((l.length + 1 : Nat) : Int) - 1 = (l.length : Nat) from by omega]
  rw [inB_nat (by omega), ck_true]
  rw [show (decide ((0 : Int) ≤ ((l.length : Nat) : Int)) && decide (((l.length : Nat) : Int) ≤ ((l.length + 1 : Nat) : Int))) = true from by simp; omega, ck_true]
  simp only [Option.bind_some, out1_inl, Int.toNat_natCast]
  simp
theorem cpop_nil {G : Option V_graph_Graph} {a b d e : List Int} {g : List (List Int)} {k : Int} :
    stack_Stack_scc_call_Pop_p0 ((G, a, b, d, e, [], g, k, ()), ()) = some (.inl ((0, [], ()), false, (G, a, b, d, e, [], g, k, ()), ())) := by
  unfold stack_Stack_scc_call_Pop_p0 stack_Stack_scc_call_Top_p0 stack_Stack_scc_call_Len_p0
  simp only [Option.bind_some, out1_inl, List.length_nil]
  rw [show (((0 : Nat) : Int) == 0) = true from rfl, cond_true]
  simp only [Option.bind_some, out1_inl]
  unfold stack_Stack_scc_call_Pop_p0_j25_v
  simp only [cond_false, Option.bind_some, out1_inl]

theorem tab_getN {n k : Nat} {g : Nat → Int} (h : k < n) : (tab n g).getD k (Ty.dflt (.int .i64)) = g k := tab_get h
theorem nodup_le : ∀ (n : Nat) (l : List Nat), l.Nodup → (∀ x ∈ l, x < n) → l.length ≤ n
  | 0, l, _, h => by
    cases l with
    | nil => exact Nat.le_refl _
    | cons a l => exact absurd (h a List.mem_cons_self) (Nat.not_lt_zero _)
  | n + 1, l, h1, h2 => by
    by_cases hm : n ∈ l
    · have h3 := nodup_le n (l.erase n) (h1.erase n) fun x hx => by
        have := (h1.mem_erase_iff).1 hx
        have := h2 x this.2
        omega
      rw [List.length_erase_of_mem hm] at h3
      omega
    · have := nodup_le n l h1 fun x hx => by
        have := h2 x hx
        have : x ≠ n := fun e => hm (e ▸ hx)
        omega
      omega
theorem fst_len {n : Nat} {nx : Nat → List Nat} {s : TS} (h : TI n nx s) : s.st.length ≤ n ∧ s.fr.length ≤ n := by
  have hb := nodup_le n
  have hlt : ∀ x ∈ s.st, x < n := fun x hx => h.rng x ((h.vis x).2 (.inl hx))
  refine ⟨hb s.st (h.ord.imp fun {a b} hab e => by rw [e] at hab; omega) hlt, ?_⟩
  have := hb s.fs ?_ ?_
  · simpa [TS.fs] using this
  · unfold TS.fs
    rw [List.Nodup, List.pairwise_map]
    exact h.fro.imp fun {a b} hab e => by rw [e] at hab; omega
  · intro x hx
    obtain ⟨p, k1, k2⟩ := fs_mem.1 hx
    exact hlt x (k2 ▸ h.frm p k1)
end Go.XD

/- Plain law of the scc package: closes, the scan and goes, as the walk's machine does them. -/
namespace Go.XD

theorem beq_nat (a b : Nat) : (((a : Nat) : Int) == ((b : Nat) : Int)) = decide (a = b) := by
  by_cases h : a = b
  · subst h; simp
  · rw [decide_eq_false h, beq_eq_false_iff_ne]; omega
section
variable {G : Option V_graph_Graph} {n : Nat} {idx low : Nat → Nat} {fr : List (Nat × List Nat)} {fd : List (List Nat)} {k : Nat}

theorem closes_step {w v : Nat} {rest own : List Nat} (hw : w < n) (hn : n ≤ 1000000) (hr : rest.length ≤ 1000000) (ho : own.length ≤ 1000000) (hf : fd.length ≤ 1000000) (hnm : w ∉ rest) (g : V_scc_finder × Int × List Int × Unit → Option ((V_scc_finder × (List Int) × Unit) ⊕ Empty)) :
    scc_finder_closes_p0_l4_step g (enc G n idx low (w :: rest) fr fd k, (v : Int), ofN own, ()) = if w = v then some (.inl (enc G n idx low rest fr (fd ++ [own ++ [w]]) k, srt (ofN (own ++ [w])), ())) else g (enc G n idx low rest fr fd k, (v : Int), ofN (own ++ [w]), ()) := by
  unfold scc_finder_closes_p0_l4_step
  simp only
  rw [show enc G n idx low (w :: rest) fr fd k = (G, tab n (fun v => (idx v : Int)), tab n (fun v => (low v : Int)), ofN rest.reverse ++ [(w : Int)], tab n (onF (w :: rest)), fr.reverse.map fr1, fd.map (fun c => srt (ofN c)), (k : Int), ()) from by unfold enc; simp [ofN]]
  rw [ipop_eq (by simp [ofN_len]; omega)]
  simp only [Option.bind_some, out1_inl, tab_len, inB_nat hw, ck_true, Int.toNat_natCast]
  rw [roomB_ok (by simp [ofN_len]; omega), ck_true, beq_nat]
  rw [tab_set (g' := onF rest) (by simp [onF, hnm]) (fun j hj => (onF_cons hj).symm)]
  rw [show ofN own ++ [(w : Int)] = ofN (own ++ [w]) from by simp [ofN]]
  by_cases e : w = v
  · rw [decide_eq_true e, cond_true, if_pos e, roomB_ok (by simp; omega), ck_true]
    simp [enc]
  · rw [decide_eq_false e, cond_false, if_neg e]
    rfl

theorem closes_loop {v : Nat} {pre post : List Nat} (hn : n ≤ 1000000) (hlt : ∀ w ∈ pre ++ v :: post, w < n) (hnd : (pre ++ v :: post).Nodup) (hf : fd.length ≤ 1000000) :
    lim scc_finder_closes_p0_l4_step (enc G n idx low (pre ++ v :: post) fr fd k, (v : Int), ([] : List Int), ()) = some (.inl (enc G n idx low post fr (fd ++ [pre ++ [v]]) k, srt (ofN (pre ++ [v])), ())) := by
  have hlen := nodup_le n _ hnd hlt
  simp only [List.length_append, List.length_cons] at hlen
  have h := lim_up (step := scc_finder_closes_p0_l4_step) (y := .inl (enc G n idx low post fr (fd ++ [pre ++ [v]]) k, srt (ofN (pre ++ [v])), ())) (fun i => (enc G n idx low (pre.drop i ++ v :: post) fr fd k, (v : Int), ofN (pre.take i), ())) pre.length (fun g i hi => ?_) (fun g => ?_)
  · simpa [ofN] using h
  · have hd : pre.drop i = pre[i] :: pre.drop (i + 1) := List.drop_eq_getElem_cons hi
    have hnd2 : (pre.drop i ++ v :: post).Nodup := by
      rw [← List.take_append_drop i pre, List.append_assoc] at hnd
      exact (List.nodup_append.1 hnd).2.1
    rw [hd] at hnd2 ⊢
    rw [List.cons_append, List.nodup_cons] at hnd2
    rw [List.cons_append, closes_step (hlt _ (List.mem_append_left _ (List.getElem_mem hi))) hn (by simp; omega) (by simp; omega) hf hnd2.1, if_neg, take_snoc hi]
    intro e
    exact hnd2.1 (by rw [e]; simp)
  · rw [List.drop_length, List.nil_append, List.take_length]
    rw [List.nodup_append] at hnd
    have h2 := hnd.2.1
    rw [List.nodup_cons] at h2
    rw [closes_step (hlt _ (by simp)) hn (by omega) (by omega) hf h2.1, if_pos rfl]

theorem closes_keep {st : List Nat} {v : Nat} (hv : v < n) (hne : low v ≠ idx v) : scc_finder_closes_p0 (enc G n idx low st fr fd k, (v : Int), ()) = some (.inl (enc G n idx low st fr fd k, ())) := by
  unfold scc_finder_closes_p0
  rw [show (enc G n idx low st fr fd k).2.2.1 = tab n (fun v => (low v : Int)) from rfl, show (enc G n idx low st fr fd k).2.1 = tab n (fun v => (idx v : Int)) from rfl]
  simp only [tab_len, inB_nat hv, ck_true, Int.toNat_natCast, tab_getN hv]
  rw [show (((low v : Nat) : Int) != ((idx v : Nat) : Int)) = true from by rw [bne, beq_nat, decide_eq_false hne]; rfl, cond_true]
theorem closes_pop {pre post : List Nat} {v : Nat} (heq : low v = idx v) (hn : n ≤ 1000000) (hlt : ∀ w ∈ pre ++ v :: post, w < n) (hnd : (pre ++ v :: post).Nodup) (hf : fd.length ≤ 1000000) :
    scc_finder_closes_p0 (enc G n idx low (pre ++ v :: post) fr fd k, (v : Int), ()) = some (.inl (enc G n idx low post fr (fd ++ [pre ++ [v]]) k, ())) := by
  have hv : v < n := hlt v (by simp)
  unfold scc_finder_closes_p0
  rw [show (enc G n idx low (pre ++ v :: post) fr fd k).2.2.1 = tab n (fun v => (low v : Int)) from rfl, show (enc G n idx low (pre ++ v :: post) fr fd k).2.1 = tab n (fun v => (idx v : Int)) from rfl]
  simp only [tab_len, inB_nat hv, ck_true, Int.toNat_natCast, tab_getN hv]
  rw [show (((low v : Nat) : Int) != ((idx v : Nat) : Int)) = false from by rw [bne, beq_nat, decide_eq_true heq]; rfl, cond_false, closes_loop hn hlt hnd hf]
  rfl
end

/-- The state is as the invariant says, and counts are. -/
structure GO (n : Nat) (A : List Arc) (T : Nat) (s : TS) : Prop where
  ti : TI n (nxN A) s
  tc : TC n (nxN A) T s
def TS.en (A : List Arc) (n : Nat) (s : TS) (fr : List (Nat × List Nat)) : V_scc_finder := enc (some (gr n A)) n s.idx s.low s.st fr s.fd s.steps
def TS.ms (n : Nat) (A : List Arc) (s : TS) : Nat := 2 * s.M n (nxN A) + s.fr.length

theorem lim_exs {σ X Y : Type} {step : (X → Option Y) → X → Option Y} (e : σ → X) (Inv : σ → Prop) (m : σ → Nat) (Q : Y → Prop)
    (h : ∀ s, Inv s → (∃ y, Q y ∧ ∀ g, step g (e s) = some y) ∨ (∃ s', Inv s' ∧ m s' < m s ∧ ∀ g, step g (e s) = g (e s'))) {s : σ} (hs : Inv s) : ∃ y, Q y ∧ lim step (e s) = some y := by
  have key : ∀ k s, Inv s → m s < k → ∃ y, Q y ∧ lim step (e s) = some y := by
    intro k
    induction k with
    | zero => intro s _ hm; omega
    | succ k ih =>
      intro s hs hm
      rcases h s hs with ⟨y, h1, h2⟩ | ⟨s', h1, h2, h3⟩
      · exact ⟨y, h1, lim_end h2⟩
      · obtain ⟨y, k1, k2⟩ := ih s' h1 (by omega)
        exact ⟨y, k1, by rw [lim_step h3]; exact k2⟩
  exact key (m s + 1) s hs (Nat.lt_succ_self _)
theorem fd_len {n : Nat} {A : List Arc} {s : TS} (h : TI n (nxN A) s) : s.fd.length ≤ n := by
  have h1 := nodup_le n s.fd.flatten h.nod fun x hx => h.rng x ((h.vis x).2 (.inr hx))
  have h2 : ∀ l : List (List Nat), (∀ c ∈ l, c ≠ []) → l.length ≤ l.flatten.length := fun l hl => by
    induction l with
    | nil => exact Nat.le_refl _
    | cons c l ih =>
      have := ih fun c hc => hl c (List.mem_cons_of_mem _ hc)
      have : c.length ≠ 0 := fun e => hl c List.mem_cons_self (List.length_eq_zero_iff.1 e)
      simp only [List.length_cons, List.flatten_cons, List.length_append]
      omega
  have := h2 s.fd fun c hc => (h.scc c hc).1
  omega

section
variable {n : Nat} {A : List Arc} (hA : InR n A) (hn : n ≤ 1000000) (hm : A.length ≤ 1000000) {T : Nat} (hT : T ≤ 100000000)
include hA hn hm hT

theorem scan_eq {s : TS} {v : Nat} {l : List Nat} {tl : List (Nat × List Nat)} (h : GO n A T s) (hf : s.fr = (v, l) :: tl) :
    ∃ y, (∃ s', GO n A T s' ∧ (∀ u, s.idx u ≠ 0 → s'.idx u ≠ 0) ∧ ((y = .inl (s'.en A n s'.fr, fr1 (v, l), ()) ∧ s'.ms n A < s.ms n A) ∨ (y = .inr (.inl (s'.en A n tl, fr1 (v, l), ())) ∧ s'.fr = (v, []) :: tl ∧ s'.ms n A ≤ s.ms n A))) ∧
      lim scc_finder_goes_p0_l8_step (s.en A n tl, fr1 (v, l), ofN l, (l.length : Int), (0 : Int), ()) = some y := by
  have hl : l.length ≤ A.length := by
    obtain ⟨pre, k1, _⟩ := h.ti.par (v, l) (by rw [hf]; exact List.mem_cons_self)
    have := nxN_len A v
    rw [show nxN A v = pre ++ l from k1, List.length_append] at this
    omega
  refine lim_ex (step := scc_finder_goes_p0_l8_step) (fun x => ∃ s1 i, i ≤ l.length ∧ x = (s1.en A n tl, fr1 (v, l), ofN l, (l.length : Int), ((i : Nat) : Int), ()) ∧ GO n A T s1 ∧ s1.fr = (v, l.drop i) :: tl ∧ (∀ u, s.idx u ≠ 0 → s1.idx u ≠ 0) ∧ s1.ms n A ≤ s.ms n A) (fun x => l.length - x.2.2.2.2.1.toNat) _ (fun x hx => ?_) ⟨s, 0, Nat.zero_le _, rfl, h, by rw [hf, List.drop_zero], fun _ hu => hu, Nat.le_refl _⟩
  obtain ⟨s1, i, hi, rfl, h1, hf1, hmo, hms⟩ := hx
  have ⟨b1, b2⟩ := fst_len h1.ti
  have htl : tl.length ≤ n := by rw [hf1, List.length_cons] at b2; omega
  have hsteps : s1.steps ≤ T := by have := h1.tc.up; omega
  have hv : v < n := h1.ti.rng v (h1.ti.st_idx (h1.ti.frm _ (by rw [hf1]; exact List.mem_cons_self)))
  by_cases hil : i < l.length
  · have hd : l.drop i = l[i] :: l.drop (i + 1) := List.drop_eq_getElem_cons hil
    have hin : l[i] ∈ nxN A v := by
      obtain ⟨pre, k1, _⟩ := h1.ti.par (v, l.drop i) (by rw [hf1]; exact List.mem_cons_self)
      rw [show nxN A v = pre ++ l.drop i from k1, hd]
      exact List.mem_append_right _ List.mem_cons_self
    have hw : l[i] < n := nxN_lt hA hin
    have hrd : rdL (.int .i64) (ofN l) (i : Int) = (l[i] : Int) := by
      rw [rdL_nat (.int .i64) (ofN l) (by rw [ofN_len]; exact hil)]
      simp [ofN]
    rw [hd] at hf1
    by_cases h0 : s1.idx l[i] = 0
    · left
      have hop := h1.ti.open_ok (k := s1.steps + 2) hw h0 (by omega) (.inr ⟨v, _, tl, hf1⟩)
      have hoc := h1.tc.op (k := s1.steps + 2) hw h0 (by omega) (by omega)
      refine ⟨.inl ((s1.op (nxN A) l[i] (s1.steps + 2)).en A n (s1.op (nxN A) l[i] (s1.steps + 2)).fr, fr1 (v, l), ()), ⟨_, ⟨hop, hoc⟩, fun u hu => ?_, .inl ⟨rfl, ?_⟩⟩, fun g => ?_⟩
      · simp only [TS.op]
        by_cases e : u = l[i]
        · rw [e, upf_at]; omega
        · rw [upf_ne _ e]; exact hmo u hu
      · have := (TS.M_op (nx := nxN A) (k := s1.steps + 2) hw h0).1
        unfold TS.ms at hms ⊢
        simp only [TS.op, List.length_cons] at *
        omega
      · unfold scc_finder_goes_p0_l8_step
        simp only [dlt hil, cond_true, ofN_len, inB_nat hil, ck_true, hrd]
        rw [show (s1.en A n tl).2.1 = tab n (fun v => (s1.idx v : Int)) from rfl]
        simp only [tab_len, inB_nat hw, ck_true, Int.toNat_natCast, tab_getN hw, h0]
        rw [show (((0 : Nat) : Int) == 0) = true from rfl, cond_true]
        rw [show (fr1 (v, l)).2.1 = ofN l from rfl, show (fr1 (v, l)).1 = (v : Int) from rfl, ofN_len, show (decide ((0 : Int) ≤ (i : Int)) && decide ((i : Int) ≤ (l.length : Int))) = true from by simp; omega, ck_true]
        unfold stack_Stack_scc_call_Push_p0
        simp only
        rw [roomB_ok (by simp [TS.en, enc]; omega), ck_true]
        simp only [Option.bind_some, out1_inl]
        rw [show (s1.en A n tl).2.2.2.2.2.2.2.1 = (s1.steps : Int) from rfl, wrap64 (n := (s1.steps : Int) + 1) (by omega) (by omega)]
        have e : ((s1.en A n tl).1, tab n (fun v => (s1.idx v : Int)), (s1.en A n tl).2.2.1, (s1.en A n tl).2.2.2.1, (s1.en A n tl).2.2.2.2.1, (s1.en A n tl).2.2.2.2.2.1 ++ [((v : Int), (ofN l).drop i, ())], (s1.en A n tl).2.2.2.2.2.2.1, (s1.steps : Int) + 1, ()) = enc (some (gr n A)) n s1.idx s1.low s1.st s1.fr s1.fd (s1.steps + 1) := by
          rw [hf1, ← hd]
          simp [TS.en, enc, fr1, ofN, List.map_drop]
        rw [e, opens_eq hA hn hm hw (by omega) (by omega) (by omega)]
        rfl
    · right
      have hss : s1.fd = s1.fd := rfl
      by_cases hon : l[i] ∈ s1.st
      · have hp := h1.ti.pass_on (k := s1.steps + 1) hf1 hon (by omega)
        have hM := TS.M_pass (n := n) (nx := nxN A) (k := s1.steps + 1) hf1 (upf s1.low v (min (s1.low v) (s1.low l[i])))
        refine ⟨_, ⟨⟨s1.idx, upf s1.low v (min (s1.low v) (s1.low l[i])), s1.st, (v, l.drop (i + 1)) :: tl, s1.fd, s1.steps + 1⟩, i + 1, hil, rfl, ⟨hp, ?_⟩, rfl, hmo, ?_⟩, ?_, fun g => ?_⟩
        · have := h1.tc.up; have := h1.tc.dn
          exact ⟨by simp only at *; omega, by simp only at *; omega⟩
        · unfold TS.ms at hms ⊢
          rw [hf1] at hms
          simp only [List.length_cons] at *
          omega
        · simp only [Int.toNat_natCast]; omega
        · unfold scc_finder_goes_p0_l8_step
          simp only [dlt hil, cond_true, ofN_len, inB_nat hil, ck_true, hrd]
          rw [show (s1.en A n tl).2.1 = tab n (fun v => (s1.idx v : Int)) from rfl, show (s1.en A n tl).2.2.2.2.1 = tab n (onF s1.st) from rfl]
          simp only [tab_len, inB_nat hw, ck_true, Int.toNat_natCast, tab_getN hw]
          rw [show (((s1.idx l[i] : Nat) : Int) == 0) = false from by rw [beq_eq_false_iff_ne]; omega, cond_false]
          rw [show decide (onF s1.st l[i] > 0) = true from by simp [onF, hon]]
          unfold scc_finder_goes_p0_j119_v
          simp only [cond_true]
          rw [show (fr1 (v, l)).1 = (v : Int) from rfl, show (s1.en A n tl).2.2.1 = tab n (fun v => (s1.low v : Int)) from rfl]
          simp only [tab_len, inB_nat hw, inB_nat hv, ck_true, Int.toNat_natCast, tab_getN hw, tab_getN hv, Option.bind_some, out1_inl]
          rw [show (s1.en A n tl).2.2.2.2.2.2.2.1 = (s1.steps : Int) from rfl, wrap64 (n := (s1.steps : Int) + 1) (by omega) (by omega), wrap_succ (by omega)]
          rw [tab_set (g' := fun j => (upf s1.low v (min (s1.low v) (s1.low l[i])) j : Int)) (by rw [upf_at]; unfold minI; split <;> omega) (fun j hj => by rw [upf_ne _ hj])]
          rfl
      · have hp := h1.ti.pass_off (k := s1.steps + 1) hf1 h0 hon (by omega)
        have hM := TS.M_pass (n := n) (nx := nxN A) (k := s1.steps + 1) hf1 s1.low
        refine ⟨_, ⟨⟨s1.idx, s1.low, s1.st, (v, l.drop (i + 1)) :: tl, s1.fd, s1.steps + 1⟩, i + 1, hil, rfl, ⟨hp, ?_⟩, rfl, hmo, ?_⟩, ?_, fun g => ?_⟩
        · have := h1.tc.up; have := h1.tc.dn
          exact ⟨by simp only at *; omega, by simp only at *; omega⟩
        · unfold TS.ms at hms ⊢
          rw [hf1] at hms
          simp only [List.length_cons] at *
          omega
        · simp only [Int.toNat_natCast]; omega
        · unfold scc_finder_goes_p0_l8_step
          simp only [dlt hil, cond_true, ofN_len, inB_nat hil, ck_true, hrd]
          rw [show (s1.en A n tl).2.1 = tab n (fun v => (s1.idx v : Int)) from rfl, show (s1.en A n tl).2.2.2.2.1 = tab n (onF s1.st) from rfl]
          simp only [tab_len, inB_nat hw, ck_true, Int.toNat_natCast, tab_getN hw]
          rw [show (((s1.idx l[i] : Nat) : Int) == 0) = false from by rw [beq_eq_false_iff_ne]; omega, cond_false]
          rw [show decide (onF s1.st l[i] > 0) = false from by simp [onF, hon]]
          unfold scc_finder_goes_p0_j119_v
          simp only [cond_false, Option.bind_some, out1_inl]
          rw [show (s1.en A n tl).2.2.2.2.2.2.2.1 = (s1.steps : Int) from rfl, wrap64 (n := (s1.steps : Int) + 1) (by omega) (by omega), wrap_succ (by omega)]
          rfl
  · left
    have hi' : i = l.length := by omega
    refine ⟨.inr (.inl (s1.en A n tl, fr1 (v, l), ())), ⟨s1, h1, hmo, .inr ⟨rfl, by rw [hf1, hi', List.drop_length], hms⟩⟩, fun g => ?_⟩
    unfold scc_finder_goes_p0_l8_step
    simp only [hi', dge (Nat.lt_irrefl _), cond_false]

/-- From a state with frames the walk goes on till none is left. -/
theorem walk_eq {s : TS} (h : GO n A T s) : ∃ y, (∃ s', GO n A T s' ∧ s'.fr = [] ∧ (∀ u, s.idx u ≠ 0 → s'.idx u ≠ 0) ∧ y = .inl (s'.en A n [], ())) ∧ lim scc_finder_goes_p0_l2_step (s.en A n s.fr, ()) = some y := by
  refine lim_exs (step := scc_finder_goes_p0_l2_step) (fun s : TS => (s.en A n s.fr, ())) (fun s1 => GO n A T s1 ∧ ∀ u, s.idx u ≠ 0 → s1.idx u ≠ 0) (fun s1 => s1.ms n A) _ (fun s1 hs1 => ?_) ⟨h, fun _ hu => hu⟩
  obtain ⟨h1, hmo⟩ := hs1
  have ⟨b1, b2⟩ := fst_len h1.ti
  cases hf : s1.fr with
  | nil =>
    left
    refine ⟨_, ⟨s1, h1, hf, hmo, rfl⟩, fun g => ?_⟩
    unfold scc_finder_goes_p0_l2_step
    rw [show s1.en A n [] = (some (gr n A), tab n (fun v => (s1.idx v : Int)), tab n (fun v => (s1.low v : Int)), ofN s1.st.reverse, tab n (onF s1.st), [], s1.fd.map (fun c => srt (ofN c)), (s1.steps : Int), ()) from rfl, cpop_nil]
    simp only [Option.bind_some, out1_inl, Bool.not_false, cond_true]
  | cons p tl =>
    obtain ⟨v, l⟩ := p
    right
    rw [hf, List.length_cons] at b2
    obtain ⟨y, ⟨s2, h2, hm2, hy⟩, hl⟩ := scan_eq hA hn hm hT h1 hf
    have hpop : ∀ g, scc_finder_goes_p0_l2_step g (s1.en A n ((v, l) :: tl), ()) = out2 y (fun z => g (z.1, ())) (fun z => Option.bind (scc_finder_closes_p0 (z.1, z.2.1.1, ())) fun y14 => out1 y14 fun z15 => g z15) := fun g => by
      unfold scc_finder_goes_p0_l2_step
      rw [show s1.en A n ((v, l) :: tl) = (some (gr n A), tab n (fun v => (s1.idx v : Int)), tab n (fun v => (s1.low v : Int)), ofN s1.st.reverse, tab n (onF s1.st), tl.reverse.map fr1 ++ [fr1 (v, l)], s1.fd.map (fun c => srt (ofN c)), (s1.steps : Int), ()) from by simp [TS.en, enc], cpop_eq (by simp; omega)]
      simp only [Option.bind_some, out1_inl, Bool.not_true, cond_false]
      rw [show (fr1 (v, l)).2.1 = ofN l from rfl, ofN_len]
      rw [show (some (gr n A), tab n (fun v => (s1.idx v : Int)), tab n (fun v => (s1.low v : Int)), ofN s1.st.reverse, tab n (onF s1.st), tl.reverse.map fr1, s1.fd.map (fun c => srt (ofN c)), (s1.steps : Int), ()) = s1.en A n tl from rfl]
      rw [hl]
      rfl
    rcases hy with ⟨rfl, hms⟩ | ⟨rfl, hf2, hms⟩
    · refine ⟨s2, ⟨h2, fun u hu => hm2 u (hmo u hu)⟩, hms, fun g => ?_⟩
      rw [hpop]
      rfl
    · have hvst : v ∈ s2.st := h2.ti.frm (v, []) (by rw [hf2]; exact List.mem_cons_self)
      have hv : v < n := h2.ti.rng v (h2.ti.st_idx hvst)
      by_cases heq : s2.low v = s2.idx v
      · obtain ⟨pre, post, hst⟩ := List.append_of_mem hvst
        have hp := h2.ti.pop hf2 heq hst
        have hM := TS.M_close (n := n) (nx := nxN A) hf2 s2.low post (s2.fd ++ [pre ++ [v]])
        refine ⟨⟨s2.idx, s2.low, post, tl, s2.fd ++ [pre ++ [v]], s2.steps⟩, ⟨⟨hp, ?_⟩, fun u hu => hm2 u (hmo u hu)⟩, ?_, fun g => ?_⟩
        · have := h2.tc.up; have := h2.tc.dn
          exact ⟨by simp only at *; omega, by simp only at *; omega⟩
        · unfold TS.ms at hms ⊢
          rw [hf2, List.length_cons] at hms
          simp only at *
          omega
        · rw [hpop]
          simp only [out2_inr]
          rw [show (fr1 (v, l)).1 = (v : Int) from rfl]
          unfold TS.en
          have hnd : (pre ++ v :: post).Nodup := by rw [← hst]; exact h2.ti.ord.imp fun {a b} hab e => by rw [e] at hab; omega
          rw [hst, closes_pop heq hn (fun w hw => h2.ti.rng w (h2.ti.st_idx (by rw [hst]; exact hw))) hnd (by have := fd_len h2.ti; omega)]
          rfl
      · have hp := h2.ti.keep hf2 heq
        have hM := TS.M_close (n := n) (nx := nxN A) hf2 s2.low s2.st s2.fd
        refine ⟨⟨s2.idx, s2.low, s2.st, tl, s2.fd, s2.steps⟩, ⟨⟨hp, ?_⟩, fun u hu => hm2 u (hmo u hu)⟩, ?_, fun g => ?_⟩
        · have := h2.tc.up; have := h2.tc.dn
          exact ⟨by simp only at *; omega, by simp only at *; omega⟩
        · unfold TS.ms at hms ⊢
          rw [hf2, List.length_cons] at hms
          simp only at *
          omega
        · rw [hpop]
          simp only [out2_inr]
          rw [show (fr1 (v, l)).1 = (v : Int) from rfl]
          unfold TS.en
          rw [closes_keep hv heq]
          rfl

/-- goes, from a node that was not met. -/
theorem goes_eq {s : TS} {v : Nat} (h : GO n A T s) (hf : s.fr = []) (hv : v < n) (h0 : s.idx v = 0) :
    ∃ s', GO n A T s' ∧ s'.fr = [] ∧ (∀ u, s.idx u ≠ 0 → s'.idx u ≠ 0) ∧ s'.idx v ≠ 0 ∧ scc_finder_goes_p0 (s.en A n [], (v : Int), ()) = some (.inl (s'.en A n [], ())) := by
  have hop := h.ti.open_ok (k := s.steps + 1) hv h0 (by omega) (.inl hf)
  have hoc := h.tc.op (k := s.steps + 1) hv h0 (by omega) (by omega)
  have hsteps : s.steps ≤ T := by have := h.tc.up; omega
  have ⟨b1, b2⟩ := fst_len h.ti
  obtain ⟨y, ⟨s', k1, k2, k3, rfl⟩, hl⟩ := walk_eq hA hn hm hT ⟨hop, hoc⟩
  refine ⟨s', k1, k2, fun u hu => k3 u ?_, k3 v ?_, ?_⟩
  · simp only [TS.op]
    by_cases e : u = v
    · rw [e, upf_at]; omega
    · rw [upf_ne _ e]; exact hu
  · simp only [TS.op, upf_at]; omega
  · unfold scc_finder_goes_p0
    rw [show s.en A n [] = enc (some (gr n A)) n s.idx s.low s.st [] s.fd s.steps from rfl, opens_eq hA hn hm hv (by omega) (by omega) (by simp)]
    simp only [Option.bind_some, out1_inl]
    have e : (enc (some (gr n A)) n (upf s.idx v (s.steps + 2)) (upf s.low v (s.steps + 2)) (v :: s.st) [(v, nxN A v)] s.fd (s.steps + 1), ()) = ((s.op (nxN A) v (s.steps + 1)).en A n (s.op (nxN A) v (s.steps + 1)).fr, ()) := by
      unfold TS.en TS.op
      rw [hf]
    rw [e, hl]
    rfl

end
end Go.XD

/- Plain law of the scc package: what Of's walk finds. -/
namespace Go.XD

/-- What the walk finds: the components, each once. -/
structure Fnd (n : Nat) (A : List Arc) (fd : List (List Nat)) : Prop where
  nod : fd.flatten.Nodup
  all : ∀ v, v < n ↔ v ∈ fd.flatten
  tpo : ∀ i, i < fd.length → ∀ v ∈ fd.getD i [], ∀ w ∈ nxN A v, w ∈ (fd.take (i + 1)).flatten
  scc : ∀ c ∈ fd, c ≠ [] ∧ ∀ v ∈ c, ∀ w, w ∈ c ↔ RT (nxN A) v w ∧ RT (nxN A) w v
def TS0 : TS := ⟨fun _ => 0, fun _ => 0, [], [], [], 0⟩
theorem TS0_ok (n : Nat) (nx : Nat → List Nat) : TI n nx TS0 := by
  exact ⟨fun v h => absurd rfl h, fun v => by simp [TS0], fun p hp => absurd hp List.not_mem_nil, List.Pairwise.nil, List.Pairwise.nil, fun v => Nat.zero_le _, fun p hp => absurd hp List.not_mem_nil, List.Pairwise.nil, trivial, fun v h => absurd rfl h, fun p hp => absurd hp List.not_mem_nil, fun p hp => absurd hp List.not_mem_nil, fun p hp => absurd hp List.not_mem_nil, fun i hi => absurd hi (Nat.not_lt_zero _), fun p hp => absurd hp List.not_mem_nil, fun p hp => absurd hp List.not_mem_nil, fun p hp => absurd hp List.not_mem_nil, fun p hp => absurd hp List.not_mem_nil, fun p hp => absurd hp List.not_mem_nil, fun p hp => absurd hp List.not_mem_nil⟩
theorem WT_add (n : Nat) (f : Nat → Nat) (c : Nat) : WT n (fun v => f v + c) = WT n f + n * c := by
  induction n with
  | zero => simp [WT]
  | succ n ih => rw [WT_succ, WT_succ, ih, Nat.succ_mul]; omega
theorem WT_cn {n : Nat} {A : List Arc} : WT n (fun v => (nxN A v).length) = CB false A n := by
  induction n with
  | zero => rw [CB_zero]; rfl
  | succ n ih =>
    rw [WT_succ, ih, CB_succ]
    congr 1
    unfold nxN nxt
    rw [List.length_map, List.length_map, sel_len]
section
variable {n : Nat} {A : List Arc} (hA : InR n A) (hn : n ≤ 1000000) (hm : A.length ≤ 1000000)
include hA hn hm
theorem TS0_go : GO n A (A.length + 2 * n) TS0 := by
  refine ⟨TS0_ok n _, ?_, ?_⟩
  · have : WT n (unF (nxN A) TS0.idx) = WT n (fun v => (nxN A v).length + 2) := WT_ext fun k _ => by simp [unF, TS0]
    unfold TS.M
    rw [this, WT_add, WT_cn, CB_all hA]
    simp only [TS0, frM, List.map_nil, List.sum_nil]
    omega
  · have : WT n (unU TS0.idx) = WT n (fun v => 0 + 1) := WT_ext fun k _ => by simp [unU, TS0]
    rw [this, WT_add]
    omega

theorem found_loop : ∃ y, (∃ s : TS, Fnd n A s.fd ∧ n ≤ s.steps ∧ s.steps ≤ A.length + 2 * n ∧ y = .inl (s.en A n [], ())) ∧ lim scc_Of_p0_l8_step (TS0.en A n [], (n : Int), ((0 : Nat) : Int), ()) = some y := by
  refine lim_exs (step := scc_Of_p0_l8_step) (fun p : TS × Nat => (p.1.en A n [], (n : Int), (p.2 : Int), ())) (fun p => GO n A (A.length + 2 * n) p.1 ∧ p.1.fr = [] ∧ p.2 ≤ n ∧ ∀ v, v < p.2 → p.1.idx v ≠ 0) (fun p => n - p.2) _ (fun p hp => ?_) (s := (TS0, 0)) ⟨TS0_go hA hn hm, rfl, Nat.zero_le _, fun v hv => absurd hv (Nat.not_lt_zero _)⟩
  obtain ⟨s, i⟩ := p
  obtain ⟨h, hf, hi, hall⟩ := hp
  simp only at h hf hi hall
  by_cases hin : i < n
  · right
    by_cases h0 : s.idx i = 0
    · obtain ⟨s', k1, k2, k3, k4, k5⟩ := goes_eq hA hn hm (by omega) h hf hin h0
      refine ⟨(s', i + 1), ⟨k1, k2, hin, fun v hv => ?_⟩, by simp only; omega, fun g => ?_⟩
      · by_cases e : v = i
        · rw [e]; exact k4
        · simp only at hv; exact k3 v (hall v (by omega))
      · unfold scc_Of_p0_l8_step
        simp only [dlt hin, cond_true]
        rw [show (s.en A n []).2.1 = tab n (fun v => (s.idx v : Int)) from rfl]
        simp only [tab_len, inB_nat hin, ck_true, Int.toNat_natCast, tab_getN hin, h0]
        rw [show (((0 : Nat) : Int) == 0) = true from rfl]
        unfold scc_Of_p0_j61_v
        simp only [cond_true]
        rw [k5]
        simp only [Option.bind_some, out1_inl]
        rw [wrap_succ (by omega)]
    · refine ⟨(s, i + 1), ⟨h, hf, hin, fun v hv => ?_⟩, by simp only; omega, fun g => ?_⟩
      · by_cases e : v = i
        · rw [e]; exact h0
        · simp only at hv; exact hall v (by omega)
      · unfold scc_Of_p0_l8_step
        simp only [dlt hin, cond_true]
        rw [show (s.en A n []).2.1 = tab n (fun v => (s.idx v : Int)) from rfl]
        simp only [tab_len, inB_nat hin, ck_true, Int.toNat_natCast, tab_getN hin]
        rw [show (((s.idx i : Nat) : Int) == 0) = false from by rw [beq_eq_false_iff_ne]; omega]
        unfold scc_Of_p0_j61_v
        simp only [cond_false, Option.bind_some, out1_inl]
        rw [wrap_succ (by omega)]
  · left
    have hin' : i = n := by omega
    have hst : s.st = [] := by
      cases hs : s.st with
      | nil => rfl
      | cons a l =>
        obtain ⟨p, k1, _⟩ := h.ti.bot a (by rw [hs]; exact List.mem_cons_self)
        rw [hf] at k1
        exact absurd k1 List.not_mem_nil
    refine ⟨_, ⟨s, ⟨h.ti.nod, fun v => ?_, h.ti.tpo, h.ti.scc⟩, ?_, ?_, rfl⟩, fun g => ?_⟩
    · constructor
      · intro hv
        rcases (h.ti.vis v).1 (hall v (by omega)) with k | k
        · rw [hst] at k; exact absurd k List.not_mem_nil
        · exact k
      · intro hv
        exact h.ti.rng v ((h.ti.vis v).2 (.inr hv))
    · have := h.tc.dn
      have e : WT n (unU s.idx) = WT n (fun _ => 0) := WT_ext fun k hk => by simp [unU, hall k (by omega)]
      have e2 : WT n (fun _ => 0) = 0 := by
        have := WT_add n (fun _ => 0) 0
        have : ∀ m, WT m (fun _ => 0) = 0 := fun m => by
          induction m with
          | zero => rfl
          | succ m ih => rw [WT_succ, ih]
        exact this n
      omega
    · have := h.tc.up; omega
    · unfold scc_Of_p0_l8_step
      simp only [hin', dge (Nat.lt_irrefl _), cond_false]
end
theorem TS0_en (A : List Arc) (n : Nat) : TS0.en A n [] = (some (gr n A), List.replicate n (0 : Int), List.replicate n (0 : Int), [], List.replicate n (0 : Int), [], [], 0, ()) := by
  unfold TS.en enc TS0
  rw [tab_rep]
  rw [show onF [] = fun _ => 0 from funext fun v => by simp [onF]]
  simp [ofN]
end Go.XD

/- Plain law of container/heap at the components that wait: Push puts in, Pop takes the least. -/
namespace Go.XD

theorem getDN_set {b : List Nat} {k j x : Nat} (hk : k < b.length) : (b.set k x).getD j 0 = if k = j then x else b.getD j 0 := by
  simp only [List.getD_eq_getElem?_getD, List.getElem?_set]
  by_cases h : k = j
  · subst h
    simp [hk]
  · simp [h]
/-- Two change places. -/
def swp (L : List Nat) (i j : Nat) : List Nat := (L.set i (L.getD j 0)).set j (L.getD i 0)
theorem swp_len (L : List Nat) (i j : Nat) : (swp L i j).length = L.length := by simp [swp]
theorem swp_get {L : List Nat} {i j m : Nat} (hi : i < L.length) (hj : j < L.length) : (swp L i j).getD m 0 = if j = m then L.getD i 0 else if i = m then L.getD j 0 else L.getD m 0 := by
  unfold swp
  rw [getDN_set (by simpa using hj), getDN_set hi]
theorem getD_el {L : List Nat} {i : Nat} (hi : i < L.length) : L.getD i 0 = L[i] := by simp [List.getD_eq_getElem?_getD, hi]
theorem swp_perm {L : List Nat} {i j : Nat} (hi : i < L.length) (hj : j < L.length) : (swp L i j).Perm L := by
  unfold swp
  rw [getD_el hi, getD_el hj]
  exact List.set_set_perm hi hj
section
variable (K : Nat → Int)
/-- What waits: no one is ahead of the one above it. -/
def Heap (L : List Nat) (n : Nat) : Prop := ∀ m, 0 < m → m < n → K (L.getD ((m - 1) / 2) 0) ≤ K (L.getD m 0)
def HUp (L : List Nat) (j : Nat) : Prop := (∀ m, 0 < m → m < L.length → m ≠ j → K (L.getD ((m - 1) / 2) 0) ≤ K (L.getD m 0)) ∧ (∀ m, 0 < m → m < L.length → (m - 1) / 2 = j → 0 < j → K (L.getD ((j - 1) / 2) 0) ≤ K (L.getD m 0))
def HDn (L : List Nat) (n i : Nat) : Prop := (∀ m, 0 < m → m < n → (m - 1) / 2 ≠ i → K (L.getD ((m - 1) / 2) 0) ≤ K (L.getD m 0)) ∧ (∀ m, 0 < m → m < n → (m - 1) / 2 = i → 0 < i → K (L.getD ((i - 1) / 2) 0) ≤ K (L.getD m 0))
variable {K}
theorem HUp.done {L : List Nat} {j : Nat} (h : HUp K L j) (hj : j = 0 ∨ K (L.getD ((j - 1) / 2) 0) ≤ K (L.getD j 0)) : Heap K L L.length := fun m h0 hm => by
  by_cases e : m = j
  · rcases hj with k | k
    · omega
    · rw [e]; exact k
  · exact h.1 m h0 hm e
theorem HUp.next {L : List Nat} {j : Nat} (h : HUp K L j) (hj : j < L.length) (h0 : 0 < j) (hlt : K (L.getD j 0) < K (L.getD ((j - 1) / 2) 0)) : HUp K (swp L ((j - 1) / 2) j) ((j - 1) / 2) := by
  have hi : (j - 1) / 2 < L.length := by omega
  refine ⟨fun m hm0 hm hne => ?_, fun m hm0 hm hp hi0 => ?_⟩
  · rw [swp_len] at hm
    rw [swp_get hi hj, swp_get hi hj]
    rw [if_neg (Ne.symm hne)]
    by_cases e : j = m
    · subst e
      rw [if_neg (by omega), if_pos rfl, if_pos rfl]
      exact Int.le_of_lt hlt
    · rw [if_neg e]
      by_cases e1 : j = (m - 1) / 2
      · rw [if_pos e1]
        exact h.2 m hm0 hm e1.symm h0
      · rw [if_neg e1]
        have := h.1 m hm0 hm (Ne.symm e)
        by_cases e2 : (j - 1) / 2 = (m - 1) / 2
        · rw [if_pos e2]
          rw [← e2] at this
          omega
        · rw [if_neg e2]
          exact this
  · rw [swp_len] at hm
    rw [swp_get hi hj, swp_get hi hj]
    rw [if_neg (by omega), if_neg (by omega), if_neg (show (j - 1) / 2 ≠ m by omega)]
    have k1 := h.1 ((j - 1) / 2) hi0 hi (by omega)
    by_cases e : j = m
    · rw [if_pos e]
      exact k1
    · rw [if_neg e]
      have k2 := h.1 m hm0 hm (Ne.symm e)
      rw [hp] at k2
      omega
theorem HDn.next {L : List Nat} {n i j : Nat} (h : HDn K L n i) (hn : n ≤ L.length) (hj : j < n) (h0 : 0 < j) (hp : (j - 1) / 2 = i) (hlt : K (L.getD j 0) < K (L.getD i 0)) (hmin : ∀ m, 0 < m → m < n → (m - 1) / 2 = i → K (L.getD j 0) ≤ K (L.getD m 0)) : HDn K (swp L i j) n j := by
  have hi : i < L.length := by omega
  have hjl : j < L.length := by omega
  refine ⟨fun m hm0 hm hne => ?_, fun m hm0 hm hp2 hj0 => ?_⟩
  · rw [swp_get hi hjl, swp_get hi hjl]
    rw [if_neg (Ne.symm hne)]
    by_cases e : j = m
    · subst e
      rw [if_pos hp.symm, if_pos rfl]
      exact Int.le_of_lt hlt
    · rw [if_neg e]
      by_cases e1 : i = (m - 1) / 2
      · rw [if_pos e1, if_neg (by omega)]
        exact hmin m hm0 hm e1.symm
      · rw [if_neg e1]
        have k := h.1 m hm0 hm (Ne.symm e1)
        by_cases e2 : i = m
        · rw [if_pos e2]
          have := h.2 j h0 hj hp (by omega)
          rw [← e2]
          exact this
        · rw [if_neg e2]
          exact k
  · rw [swp_get hi hjl, swp_get hi hjl]
    rw [if_neg (show j ≠ (j - 1) / 2 by omega), if_pos hp.symm, if_neg (show j ≠ m by omega), if_neg (show i ≠ m by omega)]
    have := h.1 m hm0 hm (by omega)
    rw [hp2] at this
    exact this
theorem HDn.done {L : List Nat} {n i : Nat} (h : HDn K L n i) (hmin : ∀ m, 0 < m → m < n → (m - 1) / 2 = i → K (L.getD i 0) ≤ K (L.getD m 0)) : Heap K L n := fun m h0 hm => by
  by_cases e : (m - 1) / 2 = i
  · rw [e]; exact hmin m h0 hm e
  · exact h.1 m h0 hm e
theorem Heap.least {L : List Nat} {n : Nat} (h : Heap K L n) : ∀ k m, m < k → m < n → K (L.getD 0 0) ≤ K (L.getD m 0) := by
  intro k
  induction k with
  | zero => intro m h1; omega
  | succ k ih =>
    intro m h1 hm
    by_cases h0 : m = 0
    · rw [h0]; exact Int.le_refl _
    · exact Int.le_trans (ih ((m - 1) / 2) (by omega) (by omega)) (h m (by omega) hm)
end

/-! ### The program's -/
def kf (mem : List (List Int)) (k : Nat) : Int := (mem.getD k []).getD 0 0
def lst (mem : List (List Int)) (L : List Nat) : V_scc_least := (mem, ofN L, ())
theorem ofN_getD {L : List Nat} {i : Nat} : (ofN L).getD i (Ty.dflt (.int .i64)) = (L.getD i 0 : Nat) := by
  show (ofN L).getD i 0 = _
  unfold ofN
  simp only [List.getD_eq_getElem?_getD, List.getElem?_map]
  cases L[i]? <;> rfl
theorem ofN_rdL {L : List Nat} {i : Nat} (h : i < L.length) : rdL (.int .i64) (ofN L) (i : Int) = (L.getD i 0 : Nat) := by
  rw [rdL_nat (.int .i64) (ofN L) (by rw [ofN_len]; exact h), getD_el h]
  simp [ofN]
theorem ofN_set (L : List Nat) (i x : Nat) : (ofN L).set i (x : Int) = ofN (L.set i x) := by simp [ofN, List.map_set]
section
variable {mem : List (List Int)} (hne : ∀ c ∈ mem, c ≠ []) (hml : mem.length ≤ 1000000)
include hne
theorem mem_rd {k : Nat} (hk : k < mem.length) : rdL (.lst (.int .i64)) mem (k : Int) = mem.getD k [] ∧ inB (0 : Int) (mem.getD k []).length = true ∧ rdL (.int .i64) (mem.getD k []) (0 : Int) = kf mem k := by
  have e : mem.getD k [] = mem[k] := by simp [List.getD_eq_getElem?_getD, hk]
  have h0 : 0 < (mem.getD k []).length := by
    rw [e]
    exact List.length_pos_iff.2 (hne _ (List.getElem_mem hk))
  refine ⟨by rw [rdL_nat (.lst (.int .i64)) mem hk, e], inB_nat (i := 0) h0, ?_⟩
  unfold kf
  refine (rdL_nat (.int .i64) (mem.getD k []) h0).trans ?_
  rw [List.getD_eq_getElem?_getD (l := mem.getD k []) (i := 0), List.getElem?_eq_getElem h0]
  rfl
theorem less_eq {L : List Nat} (hL : ∀ k ∈ L, k < mem.length) {i j : Nat} (hi : i < L.length) (hj : j < L.length) : scc_least_Less (some (lst mem L), (i : Int), (j : Int), ()) = some (decide (kf mem (L.getD i 0) < kf mem (L.getD j 0)), ()) := by
  have ki : L.getD i 0 < mem.length := by rw [getD_el hi]; exact hL _ (List.getElem_mem hi)
  have kj : L.getD j 0 < mem.length := by rw [getD_el hj]; exact hL _ (List.getElem_mem hj)
  obtain ⟨a1, a2, a3⟩ := mem_rd hne ki
  obtain ⟨b1, b2, b3⟩ := mem_rd hne kj
  unfold scc_least_Less lst
  simp only [Option.isSome_some, ck_true, Option.getD_some, ofN_len, inB_nat hi, inB_nat hj, ofN_rdL hi, ofN_rdL hj, inB_nat ki, inB_nat kj, a1, a2, a3, b1, b2, b3]
theorem less_p_eq {L : List Nat} (hL : ∀ k ∈ L, k < mem.length) {i j : Nat} (hi : i < L.length) (hj : j < L.length) : scc_least_Less_p0 (lst mem L, (i : Int), (j : Int), ()) = some (.inl (decide (kf mem (L.getD i 0) < kf mem (L.getD j 0)), lst mem L, ())) := by
  have ki : L.getD i 0 < mem.length := by rw [getD_el hi]; exact hL _ (List.getElem_mem hi)
  have kj : L.getD j 0 < mem.length := by rw [getD_el hj]; exact hL _ (List.getElem_mem hj)
  obtain ⟨a1, a2, a3⟩ := mem_rd hne ki
  obtain ⟨b1, b2, b3⟩ := mem_rd hne kj
  unfold scc_least_Less_p0 lst
  simp only [ck_true, ofN_len, inB_nat hi, inB_nat hj, Int.toNat_natCast, ofN_getD, inB_nat ki, inB_nat kj, a1, a2, a3, b1, b2, b3]
omit hne in
theorem swap_eq {L : List Nat} {i j : Nat} (hi : i < L.length) (hj : j < L.length) : scc_least_Swap_p0 (lst mem L, (i : Int), (j : Int), ()) = some (.inl (lst mem (swp L i j), ())) := by
  unfold scc_least_Swap_p0 lst
  simp only [ofN_len, inB_nat hi, inB_nat hj, ck_true, Int.toNat_natCast, ofN_getD, List.length_set, ofN_set]
  rfl

theorem up_eq {L : List Nat} (hL : ∀ k ∈ L, k < mem.length) (hl : L.length ≤ 1000000) {j : Nat} (hj : j < L.length) (h : HUp (kf mem) L j) :
    ∃ y, (∃ L' i, L'.Perm L ∧ Heap (kf mem) L' L'.length ∧ y = .inl (((i : Nat) : Int), lst mem L', ())) ∧ lim heap_up_p0_l0_step (lst mem L, (j : Int), ()) = some y := by
  refine lim_exs (step := heap_up_p0_l0_step) (fun p : List Nat × Nat => (lst mem p.1, (p.2 : Int), ())) (fun p => p.1.Perm L ∧ p.2 < p.1.length ∧ HUp (kf mem) p.1 p.2) (fun p => p.2) _ (fun p hp => ?_) (s := (L, j)) ⟨List.Perm.refl _, hj, h⟩
  obtain ⟨L1, j⟩ := p
  obtain ⟨hp, hj, h⟩ := hp
  simp only at hp hj h
  have hl1 : L1.length = L.length := hp.length_eq
  have hL1 : ∀ k ∈ L1, k < mem.length := fun k hk => hL k (hp.mem_iff.1 hk)
  have hw : IntKind.i64.wrap (Int.tdiv (IntKind.i64.wrap ((j : Int) - (1 : Int))) (2 : Int)) = (((j - 1) / 2 : Nat) : Int) := by
    rw [wrap64 (n := (j : Int) - 1) (by omega) (by omega)]
    cases j with
    | zero => decide
    | succ j =>
      rw [show ((j + 1 : Nat) : Int) - 1 = (j : Nat) from by omega]
      rw [show Int.tdiv ((j : Nat) : Int) 2 = ((j / 2 : Nat) : Int) from by rw [Int.tdiv_eq_ediv_of_nonneg (by omega)]; omega]
      rw [wrap64 (by omega) (by omega)]
      simp
  have hi : (j - 1) / 2 < L1.length := by omega
  have hun : ∀ g, heap_up_p0_l0_step g (lst mem L1, (j : Int), ()) = if (j - 1) / 2 = j then some (.inl ((j : Int), lst mem L1, ())) else if kf mem (L1.getD j 0) < kf mem (L1.getD ((j - 1) / 2) 0) then g (lst mem (swp L1 ((j - 1) / 2) j), (((j - 1) / 2 : Nat) : Int), ()) else some (.inl ((j : Int), lst mem L1, ())) := fun g => by
    unfold heap_up_p0_l0_step
    simp only
    rw [show (!decide ((2 : Int) = 0)) = true from rfl, ck_true, hw, beq_nat]
    by_cases e : (j - 1) / 2 = j
    · rw [decide_eq_true e, if_pos e]; rfl
    · rw [decide_eq_false e, if_neg e]
      simp only [Bool.not_false, cond_true]
      rw [less_eq hne hL1 hj hi]
      simp only [Option.bind_some]
      by_cases e2 : kf mem (L1.getD j 0) < kf mem (L1.getD ((j - 1) / 2) 0)
      · rw [decide_eq_true e2, if_pos e2]
        simp only [Bool.not_true, cond_false]
        rw [swap_eq hi hj]
        rfl
      · rw [decide_eq_false e2, if_neg e2]
        rfl
  by_cases e : (j - 1) / 2 = j
  · left
    exact ⟨_, ⟨L1, j, hp, h.done (.inl (by omega)), rfl⟩, fun g => by rw [hun, if_pos e]⟩
  · by_cases e2 : kf mem (L1.getD j 0) < kf mem (L1.getD ((j - 1) / 2) 0)
    · right
      exact ⟨(swp L1 ((j - 1) / 2) j, (j - 1) / 2), ⟨(swp_perm hi hj).trans hp, by simp only [swp_len]; omega, h.next hj (by omega) e2⟩, by simp only; omega, fun g => by rw [hun, if_neg e, if_pos e2]⟩
    · left
      exact ⟨_, ⟨L1, j, hp, h.done (.inr (by omega)), rfl⟩, fun g => by rw [hun, if_neg e, if_neg e2]⟩

theorem push_eq {L : List Nat} (hL : ∀ k ∈ L, k < mem.length) (hl : L.length < 1000000) {x : Nat} (hx : x < mem.length) (h : Heap (kf mem) L L.length) :
    ∃ L', L'.Perm (x :: L) ∧ Heap (kf mem) L' L'.length ∧ heap_Push_p0 (lst mem L, (x : Int), ()) = some (.inl (lst mem L', ())) := by
  have hup : HUp (kf mem) (L ++ [x]) L.length := by
    refine ⟨fun m h0 hm hne' => ?_, fun m h0 hm hp hj => ?_⟩
    · rw [List.length_append, List.length_singleton] at hm
      have hm' : m < L.length := by omega
      have hg : ∀ q, q < L.length → (L ++ [x]).getD q 0 = L.getD q 0 := fun q hq => by simp [List.getD_eq_getElem?_getD, List.getElem?_append_left hq]
      rw [hg m hm', hg _ (by omega)]
      exact h m h0 hm'
    · rw [List.length_append, List.length_singleton] at hm; omega
  obtain ⟨y, ⟨L', i, k1, k2, rfl⟩, k3⟩ := up_eq hne (L := L ++ [x]) (fun k hk => by
    rcases List.mem_append.1 hk with hk | hk
    · exact hL k hk
    · have : k = x := by simpa using hk
      exact this ▸ hx) (by simp; omega) (j := L.length) (by simp) hup
  refine ⟨L', k1.trans (List.perm_append_comm.trans (by simp)), k2, ?_⟩
  unfold heap_Push_p0 scc_least_Push_p0
  simp only
  rw [show (lst mem L).2.1 = ofN L from rfl, show (lst mem L).1 = mem from rfl, roomB_ok (by simp [ofN_len]; omega), ck_true]
  simp only [Option.bind_some, out1_inl]
  unfold scc_least_Len_p0
  simp only [Option.bind_some, out1_inl]
  rw [show ofN L ++ [(x : Int)] = ofN (L ++ [x]) from by simp [ofN], ofN_len, List.length_append, List.length_singleton]
  rw [wrap64 (n := ((L.length + 1 : Nat) : Int) - 1) (by omega) (by omega), show ((L.length + 1 : Nat) : Int) - 1 = (L.length : Nat) from by omega]
  unfold heap_up_p0
  rw [show (mem, ofN (L ++ [x]), ()) = lst mem (L ++ [x]) from rfl, k3]
  rfl

theorem down_eq {L : List Nat} (hL : ∀ k ∈ L, k < mem.length) (hl : L.length ≤ 1000000) {n i : Nat} (hn : n ≤ L.length) (hi : i < L.length) (h : HDn (kf mem) L n i) :
    ∃ y, (∃ L' q, L'.Perm L ∧ (∀ m, n ≤ m → L'.getD m 0 = L.getD m 0) ∧ Heap (kf mem) L' n ∧ y = .inl (((q : Nat) : Int), lst mem L', ())) ∧ lim heap_down_p0_l4_step (lst mem L, (n : Int), (i : Int), ()) = some y := by
  refine lim_exs (step := heap_down_p0_l4_step) (fun p : List Nat × Nat => (lst mem p.1, (n : Int), (p.2 : Int), ())) (fun p => p.1.Perm L ∧ (∀ m, n ≤ m → p.1.getD m 0 = L.getD m 0) ∧ p.2 < p.1.length ∧ HDn (kf mem) p.1 n p.2) (fun p => L.length - p.2) _ (fun p hp => ?_) (s := (L, i)) ⟨List.Perm.refl _, fun _ _ => rfl, hi, h⟩
  obtain ⟨L1, i⟩ := p
  obtain ⟨hp, hfix, hi, h⟩ := hp
  simp only at hp hfix hi h
  have hl1 : L1.length = L.length := hp.length_eq
  have hL1 : ∀ k ∈ L1, k < mem.length := fun k hk => hL k (hp.mem_iff.1 hk)
  have w1 : IntKind.i64.wrap ((IntKind.i64.wrap ((2 : Int) * (i : Int))) + (1 : Int)) = ((2 * i + 1 : Nat) : Int) := by
    rw [wrap64 (n := (2 : Int) * (i : Int)) (by omega) (by omega), wrap64 (by omega) (by omega)]
    push_cast
    rfl
  have w2 : IntKind.i64.wrap (((2 * i + 1 : Nat) : Int) + (1 : Int)) = ((2 * i + 2 : Nat) : Int) := by
    rw [wrap64 (by omega) (by omega)]
    push_cast
    omega
  by_cases hb : n ≤ 2 * i + 1
  · left
    refine ⟨_, ⟨L1, i, hp, hfix, h.done fun m h0 hm e => by omega, rfl⟩, fun g => ?_⟩
    unfold heap_down_p0_l4_step
    simp only
    rw [w1, show decide (((2 * i + 1 : Nat) : Int) ≥ (n : Int)) = true from by simp; omega]
    simp only [cond_true]
  · have hj1 : 2 * i + 1 < L1.length := by omega
    -- the lesser child
    obtain ⟨j, hj, hpj, hmin, hun⟩ : ∃ j, j < n ∧ (j - 1) / 2 = i ∧ (∀ m, 0 < m → m < n → (m - 1) / 2 = i → kf mem (L1.getD j 0) ≤ kf mem (L1.getD m 0)) ∧ 0 < j ∧
        ∀ g, heap_down_p0_l4_step g (lst mem L1, (n : Int), (i : Int), ()) = if kf mem (L1.getD j 0) < kf mem (L1.getD i 0) then g (lst mem (swp L1 i j), (n : Int), (j : Int), ()) else some (.inl ((i : Int), lst mem L1, ())) := by
      have fin : ∀ j, j < L1.length → ∀ g : V_scc_least × Int × Int × Unit → Option ((Int × V_scc_least × Unit) ⊕ Empty), (Option.bind (scc_least_Less_p0 (lst mem L1, (j : Int), (i : Int), ())) fun y4 => out1 y4
            (fun z5 =>
              cond (!z5.1)
                (some (.inl ((i : Int), z5.2)))
                (Option.bind (scc_least_Swap_p0 (z5.2.1, (i : Int), (j : Int), ())) fun y6 => out1 y6
                  (fun z7 =>
                    g (z7.1, (n : Int), (j : Int), ()))))) = if kf mem (L1.getD j 0) < kf mem (L1.getD i 0) then g (lst mem (swp L1 i j), (n : Int), (j : Int), ()) else some (.inl ((i : Int), lst mem L1, ())) := fun j hj g => by
        rw [less_p_eq hne hL1 hj hi]
        simp only [Option.bind_some, out1_inl]
        by_cases e2 : kf mem (L1.getD j 0) < kf mem (L1.getD i 0)
        · rw [decide_eq_true e2, if_pos e2]
          simp only [Bool.not_true, cond_false]
          rw [swap_eq hi hj]
          rfl
        · rw [decide_eq_false e2, if_neg e2]
          rfl
      by_cases h2 : 2 * i + 2 < n
      · have hj2 : 2 * i + 2 < L1.length := by omega
        by_cases hlt : kf mem (L1.getD (2 * i + 2) 0) < kf mem (L1.getD (2 * i + 1) 0)
        · refine ⟨2 * i + 2, h2, by omega, fun m h0 hm e => ?_, by omega, fun g => ?_⟩
          · rcases (show m = 2 * i + 1 ∨ m = 2 * i + 2 by omega) with rfl | rfl
            · exact Int.le_of_lt hlt
            · exact Int.le_refl _
          · unfold heap_down_p0_l4_step
            simp only
            rw [w1, show decide (((2 * i + 1 : Nat) : Int) ≥ (n : Int)) = false from by simp; omega, show decide (((2 * i + 1 : Nat) : Int) < 0) = false from by simp; omega, w2, show decide (((2 * i + 2 : Nat) : Int) < (n : Int)) = true from by simp; omega]
            simp only [cond_true, cond_false]
            rw [less_eq hne hL1 hj2 hj1, decide_eq_true hlt]
            simp only [Option.bind_some]
            unfold heap_down_p0_j67_v
            simp only [cond_true, Option.bind_some, out1_inl]
            exact fin _ hj2 g
        · refine ⟨2 * i + 1, by omega, by omega, fun m h0 hm e => ?_, by omega, fun g => ?_⟩
          · rcases (show m = 2 * i + 1 ∨ m = 2 * i + 2 by omega) with rfl | rfl
            · exact Int.le_refl _
            · omega
          · unfold heap_down_p0_l4_step
            simp only
            rw [w1, show decide (((2 * i + 1 : Nat) : Int) ≥ (n : Int)) = false from by simp; omega, show decide (((2 * i + 1 : Nat) : Int) < 0) = false from by simp; omega, w2, show decide (((2 * i + 2 : Nat) : Int) < (n : Int)) = true from by simp; omega]
            simp only [cond_true, cond_false]
            rw [less_eq hne hL1 hj2 hj1, decide_eq_false hlt]
            simp only [Option.bind_some]
            unfold heap_down_p0_j67_v
            simp only [cond_false, Option.bind_some, out1_inl]
            exact fin _ hj1 g
      · refine ⟨2 * i + 1, by omega, by omega, fun m h0 hm e => ?_, by omega, fun g => ?_⟩
        · rcases (show m = 2 * i + 1 by omega) with rfl
          exact Int.le_refl _
        · unfold heap_down_p0_l4_step
          simp only
          rw [w1, show decide (((2 * i + 1 : Nat) : Int) ≥ (n : Int)) = false from by simp; omega, show decide (((2 * i + 1 : Nat) : Int) < 0) = false from by simp; omega, w2, show decide (((2 * i + 2 : Nat) : Int) < (n : Int)) = false from by simp; omega]
          simp only [cond_false]
          unfold heap_down_p0_j67_v
          simp only [cond_false, Option.bind_some, out1_inl]
          exact fin _ hj1 g
    obtain ⟨hj0, hun⟩ := hun
    by_cases e2 : kf mem (L1.getD j 0) < kf mem (L1.getD i 0)
    · right
      refine ⟨(swp L1 i j, j), ⟨(swp_perm hi (by omega)).trans hp, fun m hm => ?_, by simp only [swp_len]; omega, h.next (by omega) hj hj0 hpj e2 hmin⟩, by simp only; omega, fun g => by rw [hun, if_pos e2]⟩
      simp only
      rw [swp_get hi (by omega), if_neg (by omega), if_neg (by omega)]
      exact hfix m hm
    · left
      refine ⟨_, ⟨L1, i, hp, hfix, h.done fun m h0 hm e => ?_, rfl⟩, fun g => by rw [hun, if_neg e2]⟩
      have := hmin m h0 hm e
      omega

theorem pop_eq {L : List Nat} (hL : ∀ k ∈ L, k < mem.length) (hl : L.length ≤ 1000000) (h0 : 0 < L.length) (h : Heap (kf mem) L L.length) :
    ∃ x L', (x :: L').Perm L ∧ (∀ k ∈ L, kf mem x ≤ kf mem k) ∧ Heap (kf mem) L' L'.length ∧ heap_Pop_p0 (lst mem L, ()) = some (.inl ((x : Int), lst mem L', ())) := by
  have hn : L.length - 1 < L.length := by omega
  have hsl : (swp L 0 (L.length - 1)).length = L.length := swp_len _ _ _
  have hsp := swp_perm (L := L) h0 hn
  have hd : HDn (kf mem) (swp L 0 (L.length - 1)) (L.length - 1) 0 := by
    refine ⟨fun m hm0 hm hne' => ?_, fun m hm0 hm hp hi0 => by omega⟩
    rw [swp_get h0 hn, swp_get h0 hn, if_neg (by omega), if_neg (by omega), if_neg (by omega), if_neg (by omega)]
    exact h m hm0 (by omega)
  obtain ⟨y, ⟨L2, q, k1, k2, k3, rfl⟩, k4⟩ := down_eq hne (L := swp L 0 (L.length - 1)) (fun k hk => hL k (hsp.mem_iff.1 hk)) (by omega) (n := L.length - 1) (i := 0) (by omega) (by omega) hd
  have hl2 : L2.length = L.length := k1.length_eq.trans hsl
  have hlast : L2.getD (L.length - 1) 0 = L.getD 0 0 := by
    rw [k2 _ (Nat.le_refl _), swp_get h0 hn, if_pos rfl]
  have hsplit : L2 = L2.take (L.length - 1) ++ [L.getD 0 0] := by
    rw [← hlast, getD_el (show L.length - 1 < L2.length by omega)]
    rw [← take_snoc (by omega), List.take_of_length_le (by omega)]
  have hperm : (L.getD 0 0 :: L2.take (L.length - 1)).Perm L := by
    refine List.Perm.trans ?_ (k1.trans hsp)
    conv => rhs; rw [hsplit]
    exact (List.perm_append_comm (l₁ := [L.getD 0 0]))
  refine ⟨L.getD 0 0, L2.take (L.length - 1), hperm, fun k hk => ?_, fun m hm0 hm => ?_, ?_⟩
  · obtain ⟨i, hi, rfl⟩ := List.getElem_of_mem hk
    rw [← getD_el hi]
    exact h.least (i + 1) i (by omega) hi
  · rw [List.length_take] at hm
    have hg : ∀ q, q < L.length - 1 → (L2.take (L.length - 1)).getD q 0 = L2.getD q 0 := fun q hq => by simp [List.getD_eq_getElem?_getD, List.getElem?_take, hq]
    rw [hg m (by omega), hg _ (by omega)]
    exact k3 m hm0 (by omega)
  · unfold heap_Pop_p0 scc_least_Len_p0
    simp only [Option.bind_some, out1_inl]
    rw [show (lst mem L).2.1 = ofN L from rfl, ofN_len]
    rw [wrap64 (n := (L.length : Int) - 1) (by omega) (by omega), show (L.length : Int) - 1 = ((L.length - 1 : Nat) : Int) from by omega]
    have hsw := swap_eq (mem := mem) (L := L) h0 hn
    simp only [Int.natCast_zero] at hsw
    rw [show ((0 : Int)) = ((0 : Nat) : Int) from rfl, swap_eq h0 hn]
    simp only [Option.bind_some, out1_inl]
    unfold heap_down_p0
    simp only
    rw [k4]
    simp only [Option.bind_some, out1_inl]
    unfold scc_least_Pop_p0
    simp only
    rw [show (lst mem L2).2.1 = ofN L2 from rfl, show (lst mem L2).1 = mem from rfl, ofN_len, hl2]
    rw [wrap64 (n := (L.length : Int) - 1) (by omega) (by omega), show (L.length : Int) - 1 = ((L.length - 1 : Nat) : Int) from by omega, inB_nat hn, ck_true]
    rw [show (decide ((0 : Int) ≤ ((L.length - 1 : Nat) : Int)) && decide (((L.length - 1 : Nat) : Int) ≤ (L.length : Int))) = true from by simp, ck_true]
    simp only [Option.bind_some, out1_inl, Int.toNat_natCast, ofN_getD, hlast]
    unfold lst ofN
    rw [List.map_take]
end
end Go.XD

/- Plain law of the scc package: ordered's tables: whose component, how many arcs lead out, which wait. -/
namespace Go.XD

/-- A component's nodes, rising. -/
def srtN (c : List Nat) : List Nat := c.mergeSort fun x y => decide (x ≤ y)
theorem srtN_perm (c : List Nat) : (srtN c).Perm c := List.mergeSort_perm _ _
theorem srt_ofN (c : List Nat) : srt (ofN c) = ofN (srtN c) := by
  unfold srt ofN srtN
  exact (List.map_mergeSort (fun a _ b _ => by simp)).symm
theorem srtN_mem {c : List Nat} {v : Nat} : v ∈ srtN c ↔ v ∈ c := (srtN_perm c).mem_iff
theorem srtN_sorted (c : List Nat) : (srtN c).Pairwise (fun a b => a ≤ b) := by
  have := List.pairwise_mergeSort (le := fun x y : Nat => decide (x ≤ y)) (fun a b c h1 h2 => by simp at *; omega) (fun a b => by simp; omega) c
  exact this.imp fun h => by simpa using h
def memI (fd : List (List Nat)) : List (List Int) := fd.map fun c => srt (ofN c)
theorem memI_len (fd : List (List Nat)) : (memI fd).length = fd.length := by simp [memI]
theorem memI_get {fd : List (List Nat)} {k : Nat} (h : k < fd.length) : (memI fd).getD k [] = ofN (srtN (fd.getD k [])) := by
  unfold memI
  simp [List.getD_eq_getElem?_getD, h, srt_ofN]
theorem memI_rd {fd : List (List Nat)} {k : Nat} (h : k < fd.length) : rdL (.lst (.int .i64)) (memI fd) (k : Int) = ofN (srtN (fd.getD k [])) := by
  rw [rdL_nat (.lst (.int .i64)) (memI fd) (by rw [memI_len]; exact h), ← memI_get h]
  simp [List.getD_eq_getElem?_getD, memI, h]

/-- Whose component. -/
def cmp (fd : List (List Nat)) (v : Nat) : Nat := fd.findIdx fun c => decide (v ∈ c)
section
variable {n : Nat} {A : List Arc} {fd : List (List Nat)} (hF : Fnd n A fd)
include hF
theorem cmp_lt {v : Nat} (hv : v < n) : cmp fd v < fd.length := by
  unfold cmp
  rw [List.findIdx_lt_length]
  obtain ⟨c, k1, k2⟩ := List.mem_flatten.1 ((hF.all v).1 hv)
  exact ⟨c, k1, by simpa using k2⟩
theorem cmp_in {v : Nat} (hv : v < n) : v ∈ fd.getD (cmp fd v) [] := by
  have h := cmp_lt hF hv
  have := List.findIdx_getElem (p := fun c : List Nat => decide (v ∈ c)) (xs := fd) (w := h)
  rw [List.getD_eq_getElem?_getD, List.getElem?_eq_getElem h]
  exact of_decide_eq_true this
omit hF in
theorem flat_uniq : ∀ {fd : List (List Nat)}, fd.flatten.Nodup → ∀ {i j v : Nat}, v ∈ fd.getD i [] → v ∈ fd.getD j [] → i = j
  | [], _, i, j, v, h1, _ => by simp at h1
  | c :: fd, hn, i, j, v, h1, h2 => by
    rw [List.flatten_cons, List.nodup_append] at hn
    have hf : ∀ k, v ∈ fd.getD k [] → v ∈ fd.flatten := fun k hk => by
      rw [List.getD_eq_getElem?_getD] at hk
      cases e : fd[k]? with
      | none => rw [e] at hk; simp at hk
      | some d =>
        rw [e] at hk
        exact List.mem_flatten.2 ⟨d, List.mem_of_getElem? e, hk⟩
    cases i with
    | zero =>
      cases j with
      | zero => rfl
      | succ j => exact absurd rfl (hn.2.2 v (by simpa using h1) v (hf j (by simpa using h2)))
    | succ i =>
      cases j with
      | zero => exact absurd rfl (hn.2.2 v (by simpa using h2) v (hf i (by simpa using h1)))
      | succ j => rw [flat_uniq hn.2.1 (i := i) (j := j) (by simpa using h1) (by simpa using h2)]
theorem in_lt {k v : Nat} (h : v ∈ fd.getD k []) : v < n ∧ k < fd.length := by
  rw [List.getD_eq_getElem?_getD] at h
  cases e : fd[k]? with
  | none => rw [e] at h; simp at h
  | some d =>
    rw [e] at h
    exact ⟨(hF.all v).2 (List.mem_flatten.2 ⟨d, List.mem_of_getElem? e, h⟩), (List.getElem?_eq_some_iff.1 e).1⟩
theorem cmp_eq {k v : Nat} (h : v ∈ fd.getD k []) : cmp fd v = k := flat_uniq hF.nod (cmp_in hF (in_lt hF h).1) h
theorem cmp_iff {k v : Nat} (hv : v < n) : cmp fd v = k ↔ v ∈ fd.getD k [] := ⟨fun e => e ▸ cmp_in hF hv, cmp_eq hF⟩
theorem cmp_scc {v w : Nat} (hv : v < n) (hw : w < n) : cmp fd v = cmp fd w ↔ RT (nxN A) v w ∧ RT (nxN A) w v := by
  have hm : fd.getD (cmp fd v) [] ∈ fd := by
    have h := cmp_lt hF hv
    rw [List.getD_eq_getElem?_getD, List.getElem?_eq_getElem h]
    exact List.getElem_mem h
  have := (hF.scc _ hm).2 v (cmp_in hF hv) w
  rw [← this, ← cmp_iff hF hw]
  exact eq_comm
theorem fd_ne {k : Nat} (hk : k < fd.length) : fd.getD k [] ≠ [] := by
  rw [List.getD_eq_getElem?_getD, List.getElem?_eq_getElem hk]
  exact (hF.scc _ (List.getElem_mem hk)).1
theorem memI_ne : ∀ c ∈ memI fd, c ≠ [] := fun c hc => by
  unfold memI at hc
  obtain ⟨d, k1, rfl⟩ := List.mem_map.1 hc
  have := (hF.scc d k1).1
  intro e
  have := congrArg List.length e
  rw [srt_ofN, ofN_len, (srtN_perm d).length_eq] at this
  exact (hF.scc d k1).1 (List.length_eq_zero_iff.1 this)
theorem fd_lenF : fd.length ≤ n := by
  have h1 := nodup_le n fd.flatten hF.nod fun x hx => (hF.all x).2 hx
  have h2 : ∀ l : List (List Nat), (∀ c ∈ l, c ≠ []) → l.length ≤ l.flatten.length := fun l hl => by
    induction l with
    | nil => exact Nat.le_refl _
    | cons c l ih =>
      have := ih fun c hc => hl c (List.mem_cons_of_mem _ hc)
      have : c.length ≠ 0 := fun e => hl c List.mem_cons_self (List.length_eq_zero_iff.1 e)
      simp only [List.length_cons, List.flatten_cons, List.length_append]
      omega
  have := h2 fd fun c hc => (hF.scc c hc).1
  omega
theorem comp_len {k : Nat} : (fd.getD k []).length ≤ n := by
  refine nodup_le n _ ?_ fun x hx => (in_lt hF hx).1
  rw [List.getD_eq_getElem?_getD]
  cases e : fd[k]? with
  | none => exact List.Pairwise.nil
  | some d => exact (List.nodup_iff_pairwise_ne.1 hF.nod |> fun h => (List.pairwise_flatten.1 h).1 d (List.mem_of_getElem? e))

/-! ### own -/
omit hF in
theorem l14_eq {g : Nat → Int} {k : Int} {c : List Nat} (hn : n ≤ 1000000) (hc : ∀ v ∈ c, v < n) (hl : c.length ≤ 1000000) :
    lim scc_ordered_p0_l14_step (tab n g, k, ofN c, (c.length : Int), (0 : Int), ()) = some (.inl (tab n (fun v => if v ∈ c then k else g v), ())) := by
  have h := lim_up (step := scc_ordered_p0_l14_step) (y := .inl (tab n (fun v => if v ∈ c then k else g v), ())) (fun i => (tab n (fun v => if v ∈ c.take i then k else g v), k, ofN c, (c.length : Int), ((i : Nat) : Int), ())) c.length (fun h i hi => ?_) (fun h => ?_)
  · simpa using h
  · have hv : c[i] < n := hc _ (List.getElem_mem hi)
    have hrd : rdL (.int .i64) (ofN c) (i : Int) = (c[i] : Int) := by rw [ofN_rdL hi, getD_el hi]
    unfold scc_ordered_p0_l14_step
    simp only [dlt hi, cond_true, ofN_len, inB_nat hi, ck_true, hrd, tab_len, inB_nat hv, Int.toNat_natCast]
    rw [wrap_succ (by omega), tab_set (g' := fun v => if v ∈ c.take (i + 1) then k else g v)]
    · rw [take_snoc hi, if_pos (List.mem_append_right _ (List.mem_singleton.2 rfl))]
    · intro j hj
      rw [take_snoc hi]
      simp only [List.mem_append, List.mem_singleton, hj, or_false]
  · unfold scc_ordered_p0_l14_step
    simp only [dge (Nat.lt_irrefl _), cond_false, List.take_length]
theorem l8_eq (hn : n ≤ 1000000) :
    lim scc_ordered_p0_l8_step (tab n (fun _ => 0), memI fd, (fd.length : Int), (0 : Int), ()) = some (.inl (tab n (fun v => (cmp fd v : Int)), ())) := by
  have hC := fd_lenF hF
  have h := lim_up (step := scc_ordered_p0_l8_step) (y := .inl (tab n (fun v => (cmp fd v : Int)), ())) (fun i => (tab n (fun v => if cmp fd v < i then (cmp fd v : Int) else 0), memI fd, (fd.length : Int), ((i : Nat) : Int), ())) fd.length (fun h i hi => ?_) (fun h => ?_)
  · simpa using h
  · unfold scc_ordered_p0_l8_step
    simp only [dlt hi, cond_true, memI_len, inB_nat hi, ck_true, memI_rd hi]
    have hcl := comp_len hF (k := i)
    rw [ofN_len]
    rw [l14_eq hn (fun v hv => (in_lt hF (srtN_mem.1 hv)).1) (by rw [(srtN_perm _).length_eq]; omega)]
    simp only [Option.bind_some, out1_inl]
    rw [wrap_succ (by omega)]
    congr 2
    refine tab_ext fun v hv => ?_
    have hmi : v ∈ srtN (fd.getD i []) ↔ cmp fd v = i := srtN_mem.trans (cmp_iff hF hv).symm
    by_cases e : cmp fd v = i
    · rw [if_pos (hmi.2 e), if_pos (by omega), e]
    · rw [if_neg fun h => e (hmi.1 h)]
      by_cases e2 : cmp fd v < i
      · rw [if_pos e2, if_pos (by omega)]
      · rw [if_neg e2, if_neg (by omega)]
  · unfold scc_ordered_p0_l8_step
    simp only [dge (Nat.lt_irrefl _), cond_false]
    congr 2
    exact congrArg (fun t => (t, ())) (tab_ext fun v hv => by rw [if_pos (cmp_lt hF hv)])

/-! ### left -/
/-- Does an arc lead out of a component, to one that isn't among these? -/
def outB (fd : List (List Nat)) (ks : List Nat) (k : Nat) (a : Arc) : Bool := decide (cmp fd (ndN false a) = k) && decide (cmp fd (ndN true a) ≠ k) && decide (cmp fd (ndN true a) ∉ ks)
def lft (fd : List (List Nat)) (A : List Arc) (ks : List Nat) (k : Nat) : Nat := A.countP (outB fd ks k)
omit hF in
theorem arc_nd (hA : InR n A) {a : Arc} (ha : a ∈ A) : a.1 = (ndN false a : Nat) ∧ ndN false a < n ∧ a.2.1 = (ndN true a : Nat) ∧ ndN true a < n := by
  have h1 := hA.nd false ha
  have h2 := hA.nd true ha
  exact ⟨h1.1, h1.2, h2.1, h2.2⟩
theorem l28_eq (hA : InR n A) (hn : n ≤ 1000000) (hm : A.length ≤ 1000000) :
    lim scc_ordered_p0_l28_step (some (gr n A), tab n (fun v => (cmp fd v : Int)), tab fd.length (fun _ => 0), (A.length : Int), (0 : Int), ()) = some (.inl (tab n (fun v => (cmp fd v : Int)), tab fd.length (fun k => (lft fd A [] k : Int)), ())) := by
  have hC := fd_lenF hF
  have h := lim_up (step := scc_ordered_p0_l28_step) (y := .inl (tab n (fun v => (cmp fd v : Int)), tab fd.length (fun k => (lft fd A [] k : Int)), ())) (fun i => (some (gr n A), tab n (fun v => (cmp fd v : Int)), tab fd.length (fun k => (lft fd (A.take i) [] k : Int)), (A.length : Int), ((i : Nat) : Int), ())) A.length (fun h i hi => ?_) (fun h => ?_)
  · simpa [lft] using h
  · obtain ⟨a1, a2, a3, a4⟩ := arc_nd hA (List.getElem_mem hi)
    have k1 := cmp_lt hF a2
    have hle : ∀ k, lft fd (A.take i) [] k ≤ i := fun k => Nat.le_trans List.countP_le_length (by rw [List.length_take]; omega)
    unfold scc_ordered_p0_l28_step
    simp only [dlt hi, cond_true]
    unfold graph_Graph_Arc graph_Graph_Arcs
    simp only
    rw [show decide (((i : Nat) : Int) < 0) = false from by simp]
    simp only [Bool.not_false, cond_true, Option.isNone_some, cond_false, Option.isSome_some, ck_true, Option.getD_some, Option.bind_some]
    rw [show (gr n A).2.1 = A from rfl, show decide (((i : Nat) : Int) ≥ (A.length : Int)) = false from by simp; omega]
    simp only [cond_false, inB_nat hi, ck_true, Option.bind_some]
    rw [rdL_nat t_easementref08_Pair A hi, a1, a3]
    simp only [tab_len, inB_nat a2, inB_nat a4, ck_true, Int.toNat_natCast, tab_getN a2, tab_getN a4]
    rw [wrap_succ (by omega)]
    have hcn : ∀ k, lft fd (A.take (i + 1)) [] k = lft fd (A.take i) [] k + if outB fd [] k A[i] then 1 else 0 := fun k => countP_take_succ hi
    unfold scc_ordered_p0_j157_v
    simp only
    rw [a1]
    by_cases e : cmp fd (ndN false A[i]) = cmp fd (ndN true A[i])
    · rw [bne, beq_nat, decide_eq_true e]
      simp only [Bool.not_true, cond_false, Option.bind_some, out1_inl]
      congr 4
      refine tab_ext fun k _ => ?_
      rw [hcn]
      have : outB fd [] k A[i] = false := by
        unfold outB
        by_cases e2 : cmp fd (ndN false A[i]) = k
        · simp [e2, ← e]
        · simp [e2]
      rw [this]; simp
    · rw [bne, beq_nat, decide_eq_false e]
      simp only [Bool.not_false, cond_true, tab_len, inB_nat a2, ck_true, Int.toNat_natCast, tab_getN a2, inB_nat k1, tab_getN k1, Option.bind_some, out1_inl]
      have := hle (cmp fd (ndN false A[i]))
      rw [wrap64 (by omega) (by omega), tab_set (g' := fun k => (lft fd (A.take (i + 1)) [] k : Int))]
      · rw [hcn]
        have : outB fd [] (cmp fd (ndN false A[i])) A[i] = true := by
          unfold outB
          simp [Ne.symm e]
        rw [this]; simp
      · intro j hj
        rw [hcn]
        have : outB fd [] j A[i] = false := by
          unfold outB
          simp [Ne.symm hj]
        rw [this]; simp
  · unfold scc_ordered_p0_l28_step
    simp only [dge (Nat.lt_irrefl _), cond_false, List.take_length]

/-! ### Those that wait at first -/
theorem l44_eq (hn : n ≤ 1000000) {g : Nat → Nat} :
    ∃ y, (∃ L : List Nat, L.Nodup ∧ (∀ k, k ∈ L ↔ k < fd.length ∧ g k = 0) ∧ Heap (kf (memI fd)) L L.length ∧ y = .inl (lst (memI fd) L, tab fd.length (fun k => (g k : Int)), ())) ∧
      lim scc_ordered_p0_l44_step (lst (memI fd) [], tab fd.length (fun k => (g k : Int)), (fd.length : Int), (0 : Int), ()) = some y := by
  have hC := fd_lenF hF
  refine lim_exs (step := scc_ordered_p0_l44_step) (fun p : List Nat × Nat => (lst (memI fd) p.1, tab fd.length (fun k => (g k : Int)), (fd.length : Int), (p.2 : Int), ())) (fun p => p.2 ≤ fd.length ∧ p.1.Nodup ∧ (∀ k, k ∈ p.1 ↔ k < p.2 ∧ g k = 0) ∧ Heap (kf (memI fd)) p.1 p.1.length) (fun p => fd.length - p.2) _ (fun p hp => ?_) (s := ([], 0)) ⟨Nat.zero_le _, List.Pairwise.nil, fun k => by simp, fun m h0 hm => by simp at hm⟩
  obtain ⟨L, i⟩ := p
  obtain ⟨hi, hnd, hL, hH⟩ := hp
  simp only at hi hnd hL hH
  have hll : L.length ≤ i := nodup_le _ L hnd fun x hx => ((hL x).1 hx).1
  by_cases hil : i < fd.length
  · right
    by_cases e : g i = 0
    · obtain ⟨L', k1, k2, k3⟩ := push_eq (memI_ne hF) (L := L) (fun k hk => by rw [memI_len]; have := (hL k).1 hk; omega) (by omega) (x := i) (by rw [memI_len]; exact hil) hH
      refine ⟨(L', i + 1), ⟨hil, ?_, fun k => ?_, k2⟩, by simp only; omega, fun h => ?_⟩
      · refine k1.symm.nodup (List.nodup_cons.2 ⟨fun hm => ?_, hnd⟩)
        have := (hL i).1 hm
        omega
      · simp only
        rw [k1.mem_iff, List.mem_cons, hL k]
        constructor
        · rintro (rfl | h)
          · exact ⟨by omega, e⟩
          · exact ⟨by omega, h.2⟩
        · rintro ⟨h1, h2⟩
          by_cases e2 : k = i
          · exact .inl e2
          · exact .inr ⟨by omega, h2⟩
      · unfold scc_ordered_p0_l44_step
        simp only [dlt hil, cond_true, tab_len, inB_nat hil, ck_true, Int.toNat_natCast, tab_getN hil, e]
        rw [show (((0 : Nat) : Int) == 0) = true from rfl]
        unfold scc_ordered_p0_j203_v
        simp only [cond_true]
        rw [k3]
        simp only [Option.bind_some, out1_inl]
        rw [wrap_succ (by omega)]
    · refine ⟨(L, i + 1), ⟨hil, hnd, fun k => ?_, hH⟩, by simp only; omega, fun h => ?_⟩
      · simp only
        rw [hL k]
        constructor
        · rintro ⟨h1, h2⟩; exact ⟨by omega, h2⟩
        · rintro ⟨h1, h2⟩
          have : k ≠ i := fun e2 => e (e2 ▸ h2)
          exact ⟨by omega, h2⟩
      · unfold scc_ordered_p0_l44_step
        simp only [dlt hil, cond_true, tab_len, inB_nat hil, ck_true, Int.toNat_natCast, tab_getN hil]
        rw [show (((g i : Nat) : Int) == 0) = false from by rw [beq_eq_false_iff_ne]; omega]
        unfold scc_ordered_p0_j203_v
        simp only [cond_false, Option.bind_some, out1_inl]
        rw [wrap_succ (by omega)]
  · left
    have hi' : i = fd.length := by omega
    refine ⟨_, ⟨L, hnd, fun k => by rw [hL k, hi'], hH, rfl⟩, fun h => ?_⟩
    unfold scc_ordered_p0_l44_step
    simp only [hi', dge (Nat.lt_irrefl _), cond_false]
end
end Go.XD

