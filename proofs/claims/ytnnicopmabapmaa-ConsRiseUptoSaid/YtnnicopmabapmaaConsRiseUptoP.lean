/- For every input of bulk at most 1048576 the law ConsRise returns true, and its arguments read as they did. -/
import Derived.Test.YtnnicopmabapmaaIe
import Derived.Test.YtnnicopmabapmaaConsRiseUptoG
set_option linter.unusedVariables false
set_option linter.unusedSimpArgs false
set_option linter.unusedSectionVars false
set_option linter.unnecessarySimpa false
set_option linter.deprecated false
set_option maxRecDepth 100000
/- Plain words: tables of whole numbers, loops that count up. -/
namespace Go.XD

/-- A loop whose rounds are told by their number. -/
theorem lim_up {A B : Type} {step : (A → Option B) → A → Option B} {y : B} (st : Nat → A) (n : Nat) (h1 : ∀ g i, i < n → step g (st i) = g (st (i + 1))) (h2 : ∀ g, step g (st n) = some y) : lim step (st 0) = some y := by
  have key : ∀ d i, i + d = n → ∀ k, d + 1 ≤ k → iter step k (st i) = some y := by
    intro d
    induction d with
    | zero =>
      intro i hi k hk
      cases k with
      | zero => omega
      | succ k =>
        simp only [iter]
        rw [show i = n by omega]
        exact h2 _
    | succ d ih =>
      intro i hi k hk
      cases k with
      | zero => omega
      | succ k =>
        simp only [iter]
        rw [h1 _ i (by omega)]
        exact ih (i + 1) (by omega) k (by omega)
  exact lim_eq (n + 1) (fun k hk => key n 0 (by omega) k hk)

theorem wrap32 {n : Int} (h1 : -2147483648 ≤ n) (h2 : n ≤ 2147483647) : IntKind.i32.wrap n = n := by
  show (if (true && decide (n % (4294967296 : Int) ≥ 2147483648)) = true then n % (4294967296 : Int) - 4294967296 else n % (4294967296 : Int)) = n
  simp only [Bool.true_and, decide_eq_true_eq]
  split <;> omega

/-- A table by a function. -/
def tab (m : Nat) (g : Nat → Int) : List Int := (List.range m).map g
@[simp] theorem tab_len (m : Nat) (g : Nat → Int) : (tab m g).length = m := by simp [tab]
theorem tab_get {m k : Nat} {g : Nat → Int} {d : Int} (h : k < m) : (tab m g).getD k d = g k := by
  simp [tab, List.getD_eq_getElem?_getD, h]
theorem tab_at {m k : Nat} {g : Nat → Int} (h : k < (tab m g).length) : (tab m g)[k] = g k := by simp [tab]
theorem tab_ext {m : Nat} {g g' : Nat → Int} (h : ∀ k, k < m → g k = g' k) : tab m g = tab m g' := by
  unfold tab
  exact List.map_congr_left fun k hk => h k (List.mem_range.1 hk)
theorem tab_set {m k : Nat} {g g' : Nat → Int} {v : Int} (hv : g' k = v) (h : ∀ j, j ≠ k → g' j = g j) : (tab m g).set k v = tab m g' := by
  apply List.ext_getElem
  · simp
  · intro i h1 h2
    rw [List.getElem_set, tab_at, tab_at]
    split
    · rename_i e; rw [← e, hv]
    · rename_i e; exact (h i (Ne.symm e)).symm
theorem tab_rep (m : Nat) (v : Int) : List.replicate m v = tab m fun _ => v := by
  apply List.ext_getElem
  · simp
  · intro i h1 h2
    rw [List.getElem_replicate, tab_at]
theorem tab_of (l : List Int) : l = tab l.length fun k => l.getD k 0 := by
  apply List.ext_getElem
  · simp
  · intro i h1 h2
    rw [tab_at, List.getD_eq_getElem?_getD, List.getElem?_eq_getElem h1]
    rfl
theorem tab_take {m k : Nat} {g : Nat → Int} (h : k ≤ m) : (tab m g).take k = tab k g := by
  apply List.ext_getElem
  · simp; omega
  · intro i h1 h2
    rw [List.getElem_take, tab_at, tab_at]
theorem tab_drop {m k : Nat} {g : Nat → Int} : (tab m g).drop k = tab (m - k) fun j => g (k + j) := by
  apply List.ext_getElem
  · simp
  · intro i h1 h2
    rw [List.getElem_drop, tab_at, tab_at]

theorem rdL_tab {q : IntKind} {m k : Nat} {g : Nat → Int} (h : k < m) : rdL (.int q) (tab m g) (k : Int) = g k := by
  unfold rdL
  rw [Int.toNat_natCast]
  exact tab_get h

/-! ### Counting -/
section
variable {α : Type}
theorem countP_take_succ {p : α → Bool} {l : List α} {i : Nat} (h : i < l.length) : (l.take (i + 1)).countP p = (l.take i).countP p + (if p l[i] then 1 else 0) := by
  rw [take_snoc h, List.countP_append, List.countP_singleton]
theorem countP_take_le {p : α → Bool} {l : List α} {i j : Nat} (h : i ≤ j) : (l.take i).countP p ≤ (l.take j).countP p := by
  have : (l.take i).Sublist (l.take j) := by
    rw [show l.take i = (l.take j).take i from by rw [List.take_take, Nat.min_eq_left h]]
    exact List.take_sublist _ _
  exact this.countP_le
theorem countP_take_len {p : α → Bool} {l : List α} {i : Nat} : (l.take i).countP p ≤ l.countP p := (List.take_sublist _ _).countP_le
/-- The k-th of the numbers that fit: just k fit ahead of it. -/
theorem range_sel {p : Nat → Bool} : ∀ {m k : Nat} (h : k < ((List.range m).filter p).length), p (((List.range m).filter p)[k]) = true ∧ ((List.range m).filter p)[k] < m ∧ ((List.range (((List.range m).filter p)[k])).filter p).length = k
  | 0, k, h => by simp at h
  | m + 1, k, h => by
    have e : (List.range (m + 1)).filter p = (List.range m).filter p ++ (if p m then [m] else []) := by
      rw [List.range_succ, List.filter_append]
      simp [List.filter_cons]
    by_cases hk : k < ((List.range m).filter p).length
    · have ih := range_sel (p := p) hk
      have e2 : ((List.range (m + 1)).filter p)[k] = ((List.range m).filter p)[k] := by
        simp only [e]
        rw [List.getElem_append_left hk]
      rw [e2]
      exact ⟨ih.1, by omega, ih.2.2⟩
    · have hp : p m = true := by
        cases hpm : p m with
        | true => rfl
        | false =>
          rw [e, hpm] at h
          simp at h
          omega
      have hk' : k = ((List.range m).filter p).length := by
        rw [e, hp] at h
        simp at h
        omega
      have e2 : ((List.range (m + 1)).filter p)[k] = m := by
        simp only [e, hp, if_true]
        rw [List.getElem_append_right (by omega)]
        simp
      rw [e2]
      exact ⟨hp, by omega, hk'.symm⟩
theorem countP_range (d : α) {p : α → Bool} {l : List α} : ∀ {i : Nat}, i ≤ l.length → (l.take i).countP p = ((List.range i).filter fun j => p (l.getD j d)).length
  | 0, _ => by simp
  | i + 1, h => by
    rw [countP_take_succ (by omega), countP_range d (by omega), List.range_succ, List.filter_append, List.length_append]
    congr 1
    have : l.getD i d = l[i] := by simp [List.getD_eq_getElem?_getD, show i < l.length by omega]
    simp only [List.filter_cons, List.filter_nil]
    rw [this]
    split <;> simp
end
theorem lim_step {A B : Type} {step : (A → Option B) → A → Option B} {x x' : A} (h : ∀ g, step g x = g x') : lim step x = lim step x' := by
  have hk : ∀ k, iter step (k + 1) x = iter step k x' := fun k => by simp only [iter]; exact h _
  have e : ∀ y, (∃ m, ∀ k, m ≤ k → iter step k x = some y) ↔ (∃ m, ∀ k, m ≤ k → iter step k x' = some y) := fun y => by
    constructor
    · rintro ⟨m, hm⟩
      exact ⟨m, fun k hk' => by rw [← hk]; exact hm (k + 1) (by omega)⟩
    · rintro ⟨m, hm⟩
      refine ⟨m + 1, fun k hk' => ?_⟩
      obtain ⟨j, rfl⟩ : ∃ j, k = j + 1 := ⟨k - 1, by omega⟩
      rw [hk]
      exact hm j (by omega)
  cases h1 : lim step x with
  | some y =>
    unfold lim at h1
    split at h1
    · rename_i hh
      obtain ⟨m, hm⟩ := (e _).1 hh.choose_spec
      simp only [Option.some.injEq] at h1
      rw [← h1]
      exact (lim_eq m hm).symm
    · cases h1
  | none =>
    cases h2 : lim step x' with
    | none => rfl
    | some y =>
      unfold lim at h2
      split at h2
      · rename_i hh
        obtain ⟨m, hm⟩ := (e _).2 hh.choose_spec
        rw [lim_eq m hm] at h1
        cases h1
      · cases h2
theorem lim_end {A B : Type} {step : (A → Option B) → A → Option B} {x : A} {y : B} (h : ∀ g, step g x = some y) : lim step x = some y :=
  lim_eq 1 fun k hk => by
    obtain ⟨j, rfl⟩ : ∃ j, k = j + 1 := ⟨k - 1, by omega⟩
    simp only [iter]
    exact h _
end Go.XD


/- Plain words: loops that fold, and may end early. -/
namespace Go.XD

/-- A fold over a list, with each one's place, that may end early. -/
def foldE {S α Y : Type} (f : Nat → S → α → Y ⊕ S) : Nat → S → List α → Y ⊕ S
  | _, s, [] => .inr s
  | i, s, a :: l => match f i s a with
    | .inl y => .inl y
    | .inr s' => foldE f (i + 1) s' l
theorem foldE_drop {S α Y : Type} (f : Nat → S → α → Y ⊕ S) {l : List α} {i : Nat} (hi : i < l.length) (s : S) : foldE f i s (l.drop i) = match f i s l[i] with
    | .inl y => .inl y
    | .inr s' => foldE f (i + 1) s' (l.drop (i + 1)) := by
  rw [List.drop_eq_getElem_cons hi]
  rfl
theorem lim_foldE {A B S α Y : Type} {step : (A → Option B) → A → Option B} (l : List α) (f : Nat → S → α → Y ⊕ S) (pack : S → Nat → A) (yes : Y → B) (out : S → B) (Inv : Nat → S → Prop)
    (h1 : ∀ g i s (hi : i < l.length), Inv i s → step g (pack s i) = match f i s l[i] with
      | .inl y => some (yes y)
      | .inr s' => g (pack s' (i + 1)))
    (hI : ∀ i s (hi : i < l.length), Inv i s → ∀ s', f i s l[i] = .inr s' → Inv (i + 1) s')
    (h2 : ∀ g s, Inv l.length s → step g (pack s l.length) = some (out s)) {s0 : S} (h0 : Inv 0 s0) :
    lim step (pack s0 0) = some (match foldE f 0 s0 l with
      | .inl y => yes y
      | .inr s => out s) := by
  have key : ∀ d i s, i + d = l.length → Inv i s → ∀ k, d + 1 ≤ k → iter step k (pack s i) = some (match foldE f i s (l.drop i) with
      | .inl y => yes y
      | .inr s => out s) := by
    intro d
    induction d with
    | zero =>
      intro i s hi hinv k hk
      cases k with
      | zero => omega
      | succ k =>
        have : i = l.length := by omega
        subst this
        simp only [iter]
        rw [h2 _ s hinv, List.drop_length]
        rfl
    | succ d ih =>
      intro i s hi hinv k hk
      cases k with
      | zero => omega
      | succ k =>
        have hil : i < l.length := by omega
        simp only [iter]
        rw [h1 _ i s hil hinv, foldE_drop f hil]
        cases hf : f i s l[i] with
        | inl y => rfl
        | inr s' => exact ih (i + 1) s' (by omega) (hI i s hil hinv s' hf) k (by omega)
  refine lim_eq (l.length + 1) (fun k hk => ?_)
  have := key l.length 0 s0 (by omega) h0 k hk
  simpa using this
/-- The same, without an end ahead. -/
def foldI {S α : Type} (f : Nat → S → α → S) : Nat → S → List α → S
  | _, s, [] => s
  | i, s, a :: l => foldI f (i + 1) (f i s a) l
theorem lim_foldI {A B S α : Type} {step : (A → Option B) → A → Option B} (l : List α) (f : Nat → S → α → S) (pack : S → Nat → A) (out : S → B) (Inv : Nat → S → Prop)
    (h1 : ∀ g i s (hi : i < l.length), Inv i s → step g (pack s i) = g (pack (f i s l[i]) (i + 1)))
    (hI : ∀ i s (hi : i < l.length), Inv i s → Inv (i + 1) (f i s l[i]))
    (h2 : ∀ g s, Inv l.length s → step g (pack s l.length) = some (out s)) {s0 : S} (h0 : Inv 0 s0) :
    lim step (pack s0 0) = some (out (foldI f 0 s0 l)) := by
  have := lim_foldE (Y := Empty) (step := step) l (fun i s a => .inr (f i s a)) pack (fun y => nomatch y) out Inv h1 (fun i s hi hinv s' e => by
    simp only [Sum.inr.injEq] at e
    exact e ▸ hI i s hi hinv) h2 h0
  rw [this]
  have e : ∀ (l : List α) (i : Nat) (s : S), foldE (Y := Empty) (fun i s a => .inr (f i s a)) i s l = .inr (foldI f i s l) := fun l => by
    induction l with
    | nil => intro i s; rfl
    | cons a l ih => intro i s; simp only [foldE, foldI]; exact ih _ _
  rw [e]
/-- Is there one? -/
theorem lim_any {A B α : Type} {step : (A → Option B) → A → Option B} (l : List α) (p : α → Bool) (pack : Nat → A) {yes no : B}
    (h1 : ∀ g i (hi : i < l.length), step g (pack i) = bif p l[i] then some yes else g (pack (i + 1)))
    (h2 : ∀ g, step g (pack l.length) = some no) : lim step (pack 0) = some (bif l.any p then yes else no) := by
  have := lim_foldE (S := Unit) (Y := Unit) (step := step) l (fun i s a => bif p a then .inl () else .inr ()) (fun _ i => pack i) (fun _ => yes) (fun _ => no) (fun _ _ => True) (fun g i s hi _ => by
    rw [h1 g i hi]
    cases p l[i] <;> rfl) (fun _ _ _ _ _ _ => trivial) (fun g s _ => h2 g) (s0 := ()) trivial
  rw [this]
  have e : ∀ (l : List α) (i : Nat), foldE (S := Unit) (Y := Unit) (fun i s a => bif p a then .inl () else .inr ()) i () l = bif l.any p then .inl () else .inr () := fun l => by
    induction l with
    | nil => intro i; rfl
    | cons a l ih =>
      intro i
      simp only [foldE, List.any_cons]
      cases p a with
      | true => rfl
      | false => exact ih _
  rw [e]
  cases l.any p <;> rfl
end Go.XD


/- Plain law of the package row against the document's answers. -/
namespace Go.XD

abbrev Slots := List V_api_Slot
/-- Places of a list, ags they are read. -/
theorem rdS {l : Slots} {i : Nat} (h : i < l.length) : rdL t_api_Slot l (i : Int) = l[i] := rdL_nat t_api_Slot l h
theorem getDT {t : Ty} {l : List t.T} {i : Nat} (h : i < l.length) : l.getD i t.dflt = l[i] := by simp [List.getD_eq_getElem?_getD, h]

/-! ### row -/
def badS (r : Int) (s : V_api_Slot) : Bool := decide (s.1 < 0) || decide (s.1 ≥ r)
def tC (l : Slots) (r : Int) : Int := bif decide ((l.length : Int) > 16) then 6 else bif l.any (badS r) then 7 else 0
theorem row_Check_eq (l : Slots) (r : Int) : row_Check ((l, ()), r, ()) = some (tC l r, ()) := by
  unfold row_Check tC
  simp only
  cases hd : decide ((l.length : Int) > 16) with
  | true => rfl
  | false =>
    have hl : l.length ≤ 16 := by
      have := of_decide_eq_false hd
      omega
    have := lim_any (step := row_Check_l8_step) l (badS r) (fun i => (r, l, (l.length : Int), (i : Int), ())) (yes := .inl ((7 : Int), ())) (no := .inr (.inl ())) (fun g i hi => by
      unfold row_Check_l8_step badS
      simp only [dlt hi, cond_true, inB_nat hi, ck_true, rdS hi, cond_or, wrap_succ (show i < 9223372036854775807 by omega)]) (fun g => by
      unfold row_Check_l8_step
      simp only [dge (Nat.lt_irrefl _), cond_false])
    simp only [Int.natCast_zero] at this
    rw [cond_false, cond_false]
    first
      | rw [this]
      | erw [this]
    cases l.any (badS r) <;> rfl
theorem ref15_Check_eq (l : Slots) (r : Int) : ref15_Check ((l, ()), r, ()) = some (tC l r, ()) := by
  unfold ref15_Check tC
  simp only
  cases hd : decide ((l.length : Int) > 16) with
  | true => rfl
  | false =>
    have hl : l.length ≤ 16 := by
      have := of_decide_eq_false hd
      omega
    have := lim_any (step := ref15_Check_l8_step) l (badS r) (fun i => ((l, ()), r, (i : Int), ())) (yes := .inl ((7 : Int), (l, ()), ())) (no := .inr (.inl ((l, ()), ()))) (fun g i hi => by
      unfold ref15_Check_l8_step badS
      simp only [dlt hi, cond_true, inB_nat hi, ck_true, rdS hi, cond_or, Bool.true_or, wrap_succ (show i < 9223372036854775807 by omega)]) (fun g => by
      unfold ref15_Check_l8_step
      simp only [dge (Nat.lt_irrefl _), cond_false])
    simp only [Int.natCast_zero] at this
    rw [cond_false, cond_false]
    first
      | rw [this]
      | erw [this]
    cases l.any (badS r) <;> rfl
/-- One shape? -/
def shB (a b : Slots) : Bool := (a.map fun s => s.2.1) == (b.map fun s => s.2.1)
theorem shB_len {a b : Slots} (h : shB a b = true) : a.length = b.length := by
  unfold shB at h
  have := congrArg List.length (of_decide_eq_true (by simpa using h : decide ((a.map fun s => s.2.1) = (b.map fun s => s.2.1)) = true))
  simpa using this
theorem shB_ne {a b : Slots} (h : a.length ≠ b.length) : shB a b = false := by
  cases hs : shB a b with
  | false => rfl
  | true => exact absurd (shB_len hs) h
theorem shB_any : ∀ (a b : Slots), a.length = b.length → (bif (List.range a.length).any (fun i => !((a.getD i (0, false, ())).2.1 == (b.getD i (0, false, ())).2.1)) then false else true) = shB a b := fun a b h => by
  have key : ((List.range a.length).any fun i => !((a.getD i (0, false, ())).2.1 == (b.getD i (0, false, ())).2.1)) = !(shB a b) := by
    rw [Bool.eq_iff_iff]
    unfold shB
    simp only [List.any_eq_true, List.mem_range, Bool.not_eq_true', beq_eq_false_iff_ne, ne_eq]
    constructor
    · rintro ⟨i, hi, hne⟩ he
      apply hne
      have h1 : (a.map fun s => s.2.1)[i]? = (b.map fun s => s.2.1)[i]? := by rw [he]
      have hb : i < b.length := by omega
      simp [hi, hb] at h1
      simp [List.getD_eq_getElem?_getD, hi, hb, h1]
    · intro hne
      refine Classical.byContradiction fun hn => hne ?_
      apply List.ext_getElem
      · simpa using h
      · intro i h1 h2
        have ha : i < a.length := by simpa using h1
        have hb : i < b.length := by simpa using h2
        refine Classical.byContradiction fun hx => hn ⟨i, ha, ?_⟩
        simp [List.getD_eq_getElem?_getD, ha, hb]
        simpa using hx
  rw [key]
  cases shB a b <;> rfl
theorem lneb {a b : Nat} : ((a : Int) != (b : Int)) = decide (a ≠ b) := by
  by_cases h : a = b
  · subst h; simp
  · rw [decide_eq_true h, bne, beq_eq_false_iff_ne.2 (by omega)]; rfl
theorem row_Shape_eq (a b : Slots) (ha : a.length ≤ 100000000) : row_Shape ((a, ()), (b, ()), ()) = some (shB a b, ()) := by
  unfold row_Shape slices_EqualFunc_82_p0
  simp only [lneb]
  by_cases h : a.length = b.length
  · have := lim_any (step := slices_EqualFunc_82_p0_l8_step) (List.range a.length) (fun i => !((a.getD i (0, false, ())).2.1 == (b.getD i (0, false, ())).2.1)) (fun i => (b, (), a, (a.length : Int), (i : Int), ())) (yes := .inl (false, ())) (no := .inr (.inl ())) (fun g i hi => by
      have hi' : i < a.length := by simpa using hi
      have hb : i < b.length := by omega
      unfold slices_EqualFunc_82_p0_l8_step row_Shape_1
      simp only [dlt hi', cond_true, inB_nat hi', inB_nat hb, ck_true, rdS hi', rdS hb, Option.bind_some, wrap_succ (show i < 9223372036854775807 by omega)]
      rw [List.getElem_range]
      rw [show a.getD i (0, false, ()) = a[i] from getDT (t := t_api_Slot) hi', show b.getD i (0, false, ()) = b[i] from getDT (t := t_api_Slot) hb]) (fun g => by
      unfold slices_EqualFunc_82_p0_l8_step
      simp only [List.length_range, dge (Nat.lt_irrefl _), cond_false])
    simp only [Int.natCast_zero] at this
    rw [decide_eq_false (by simpa using h), cond_false, ← shB_any a b h]
    first
      | rw [this]
      | erw [this]
    cases (List.range a.length).any (fun i => !((a.getD i (0, false, ())).2.1 == (b.getD i (0, false, ())).2.1)) <;> rfl
  · rw [decide_eq_true h, shB_ne h]
    rfl
theorem ref15_Shape_eq (a b : Slots) (ha : a.length ≤ 100000000) : ref15_Shape ((a, ()), (b, ()), ()) = some (shB a b, ()) := by
  unfold ref15_Shape
  simp only [lneb]
  by_cases h : a.length = b.length
  · have := lim_any (step := ref15_Shape_l8_step) (List.range a.length) (fun i => !((a.getD i (0, false, ())).2.1 == (b.getD i (0, false, ())).2.1)) (fun i => ((a, ()), (b, ()), (i : Int), ())) (yes := .inl (false, (a, ()), (b, ()), ())) (no := .inr (.inl ((a, ()), (b, ()), ()))) (fun g i hi => by
      have hi' : i < a.length := by simpa using hi
      have hb : i < b.length := by omega
      unfold ref15_Shape_l8_step
      simp only [dlt hi', cond_true, inB_nat hi', inB_nat hb, ck_true, rdS hi', rdS hb, wrap_succ (show i < 9223372036854775807 by omega)]
      rw [List.getElem_range]
      rw [show a.getD i (0, false, ()) = a[i] from getDT (t := t_api_Slot) hi', show b.getD i (0, false, ()) = b[i] from getDT (t := t_api_Slot) hb]) (fun g => by
      unfold ref15_Shape_l8_step
      simp only [List.length_range, dge (Nat.lt_irrefl _), cond_false])
    simp only [Int.natCast_zero] at this
    rw [decide_eq_false (by simpa using h), cond_false, ← shB_any a b h]
    first
      | rw [this]
      | erw [this]
    cases (List.range a.length).any (fun i => !((a.getD i (0, false, ())).2.1 == (b.getD i (0, false, ())).2.1)) <;> rfl
  · rw [decide_eq_true h, shB_ne h]
    rfl

def refS (l : List V_api_Slot) (r : Int) (mu : Bool) : List V_api_Slot := (r, false, ()) :: l.map fun s => (s.1, s.2.1 || mu, ())

theorem row_Ref_eq (l : List V_api_Slot) (h : l.length ≤ 1100000) (r : Int) (mu : Bool) : row_Ref ((l, ()), r, mu, ()) = some ((refS l r mu, ()), ()) := by
  have h1 : lim row_Ref_l6_step (([(r, false, ())], ()), mu, l, (l.length : Int), ((0 : Nat) : Int), ()) = some (.inl ((refS l r mu, ()), ())) := by
    refine lim_at (fun x => ∃ k : Nat, k ≤ l.length ∧ x = ((refS (l.take k) r mu, ()), mu, l, (l.length : Int), (k : Int), ())) (fun x => l.length - x.2.2.2.2.1.toNat) (fun g x hx ih => ?_) ⟨0, by omega, rfl⟩
    obtain ⟨k, hk, rfl⟩ := hx
    unfold row_Ref_l6_step
    simp only
    by_cases h : k < l.length
    · have hd : decide ((k : Int) < (l.length : Int)) = true := by simp; omega
      rw [hd, inB_nat h, wrap_succ (by omega), rdL_nat _ _ h, roomB_ok (by simp [refS]; omega)]
      simp only [cond_true, ck_true]
      refine ih _ ⟨k + 1, by omega, ?_⟩ (by simp; omega)
      simp only [refS, take_snoc h, List.map_append, List.map_cons, List.map_nil, List.cons_append, cond_or]
    · have hd : decide ((k : Int) < (l.length : Int)) = false := by simp; omega
      rw [hd]
      have : k = l.length := by omega
      subst this
      simp
  unfold row_Ref
  simp only
  rw [show ((0 : Int)) = ((0 : Nat) : Int) from rfl, h1]
  rfl
theorem ref15_Ref_eq (l : List V_api_Slot) (h : l.length ≤ 1100000) (r : Int) (mu : Bool) : ref15_Ref ((l, ()), r, mu, ()) = some ((refS l r mu, ()), ()) := by
  have h1 : lim ref15_Ref_l6_step ((l, ()), mu, [(r, false, ())], ((0 : Nat) : Int), ()) = some (.inl (refS l r mu, (l, ()), ())) := by
    refine lim_at (fun x => ∃ k : Nat, k ≤ l.length ∧ x = ((l, ()), mu, refS (l.take k) r mu, (k : Int), ())) (fun x => l.length - x.2.2.2.1.toNat) (fun g x hx ih => ?_) ⟨0, by omega, rfl⟩
    obtain ⟨k, hk, rfl⟩ := hx
    unfold ref15_Ref_l6_step
    simp only
    by_cases h : k < l.length
    · have hd : decide ((k : Int) < (l.length : Int)) = true := by simp; omega
      rw [hd, inB_nat h, wrap_succ (by omega), rdL_nat _ _ h, roomB_ok (by simp [refS]; omega)]
      simp only [cond_true, ck_true]
      refine ih _ ⟨k + 1, by omega, ?_⟩ (by simp; omega)
      simp only [refS, take_snoc h, List.map_append, List.map_cons, List.map_nil, List.cons_append, cond_or]
    · have hd : decide ((k : Int) < (l.length : Int)) = false := by simp; omega
      rw [hd]
      have : k = l.length := by omega
      subst this
      simp
  unfold ref15_Ref
  simp only
  rw [show ((0 : Int)) = ((0 : Nat) : Int) from rfl, h1]
  rfl
theorem clone_eq (l : List V_api_Slot) (h : l.length ≤ 1100000) : slices_Clone_80 (l, ()) = some (l, ()) := by
  unfold slices_Clone_80
  simp only [List.nil_append]
  rw [roomB_ok (by omega)]
  cases l with
  | nil => simp [agree_same]
  | cons _ _ => simp
/-- With other regions. -/
def good (names : List Int) (s : V_api_Slot) : Prop := 0 ≤ s.1 ∧ s.1 < names.length
def named (names : List Int) (s : V_api_Slot) : V_api_Slot := (names.getD s.1.toNat 0, s.2.1, ())
def Subs (names : List Int) (l : List V_api_Slot) (y : Option (V_api_Type × Int × Unit)) : Prop :=
  ((∀ s ∈ l, good names s) ∧ y = some ((l.map (named names), ()), 0, ())) ∨ ((¬ ∀ s ∈ l, good names s) ∧ y = some (([], ()), 7, ()))
theorem Subs.eq {names : List Int} {l : List V_api_Slot} {y z : Option (V_api_Type × Int × Unit)} (h : Subs names l y) (k : Subs names l z) : y = z := by
  rcases h with ⟨h1, rfl⟩ | ⟨h1, rfl⟩ <;> rcases k with ⟨k1, rfl⟩ | ⟨k1, rfl⟩
  · rfl
  · exact absurd h1 k1
  · exact absurd k1 h1
  · rfl
theorem bad_or (names : List Int) (n : Int) : (decide (n < 0) || decide (n ≥ (names.length : Int))) = true ↔ ¬ (0 ≤ n ∧ n < names.length) := by
  simp only [Bool.or_eq_true, decide_eq_true_eq]
  omega
theorem clone_p_eq (l : List V_api_Slot) (h : l.length ≤ 1100000) : slices_Clone_80_p0 (l, ()) = some (.inl (l, ())) := by
  unfold slices_Clone_80_p0
  simp only [List.nil_append]
  rw [roomB_ok (by omega)]
  cases l with
  | nil => simp [agree_same]
  | cons _ _ => simp

theorem row_Subst_eq (l : List V_api_Slot) (h : l.length ≤ 1100000) (names : List Int) : Subs names l (row_Subst ((l, ()), names, ())) := by
  have h1 : ∃ y, (((∀ s ∈ l, good names s) ∧ y = .inr (.inl (([], ()), (l.map (named names), ()), ()))) ∨ ((¬ ∀ s ∈ l, good names s) ∧ ∃ c, y = .inl ((7 : Int), ((), ()), (c, ()), ()))) ∧
      lim row_Subst_l6_step ((([] : List V_api_Slot), ()), (l, ()), names, (l.length : Int), ((0 : Nat) : Int), ()) = some y := by
    refine lim_ex (fun x => ∃ k : Nat, k ≤ l.length ∧ (∀ s ∈ l.take k, good names s) ∧ x = (([], ()), ((l.take k).map (named names) ++ l.drop k, ()), names, (l.length : Int), (k : Int), ())) (fun x => l.length - x.2.2.2.2.1.toNat) _ (fun x hx => ?_) ⟨0, by omega, by simp, by simp⟩
    obtain ⟨k, hk, hg, rfl⟩ := hx
    unfold row_Subst_l6_step
    simp only
    by_cases h : k < l.length
    · have hlen : ((l.take k).map (named names) ++ l.drop k).length = l.length := by simp; omega
      have hget : ((l.take k).map (named names) ++ l.drop k).getD k (Ty.dflt t_api_Slot) = l[k] := by
        rw [List.getD_eq_getElem?_getD, List.getElem?_append_right (by simp; omega)]
        simp [List.length_take, Nat.min_eq_left hk, h]
      rw [dlt h, hlen, inB_nat h, wrap_succ (by omega)]
      simp only [cond_true, ck_true, Int.toNat_natCast, cond_or, hget]
      by_cases hb : good names l[k]
      · have hb2 : (decide (l[k].1 < 0) || decide (l[k].1 ≥ (names.length : Int))) = false := by
          rw [Bool.eq_false_iff]
          exact fun e => (bad_or names _).1 e hb
        refine .inr ⟨_, ⟨k + 1, by omega, ?_, ?_⟩, ?_, fun g => by rw [hb2, inB_iff.2 hb]; rfl⟩
        · rw [take_snoc h]
          intro s hs
          rcases List.mem_append.1 hs with hs | hs
          · exact hg s hs
          · rw [List.mem_singleton.1 hs]; exact hb
        · have hset : ((l.take k).map (named names) ++ l.drop k).set k (named names l[k]) = (l.take (k + 1)).map (named names) ++ l.drop (k + 1) := by
            rw [List.set_append_right _ _ (by simp; omega)]
            simp only [List.length_map, List.length_take, Nat.min_eq_left hk, Nat.sub_self]
            rw [List.drop_eq_getElem_cons h]
            rw [take_snoc h, List.map_append]
            simp only [List.set_cons_zero, List.map_cons, List.map_nil, List.append_assoc, List.cons_append, List.nil_append]
          rw [← hset]
          simp only [named, rdL]
          rfl
        · simp only
          omega
      · have hb2 : (decide (l[k].1 < 0) || decide (l[k].1 ≥ (names.length : Int))) = true := (bad_or names _).2 hb
        refine .inl ⟨_, .inr ⟨fun hall => hb (hall _ (List.getElem_mem h)), _, rfl⟩, fun g => by rw [hb2]; rfl⟩
    · have : k = l.length := by omega
      subst this
      refine .inl ⟨_, .inl ⟨by simpa using hg, rfl⟩, fun g => ?_⟩
      rw [dge h]
      simp only [cond_false, List.take_length, List.drop_length, List.append_nil]
  obtain ⟨y, hy, hl⟩ := h1
  unfold row_Subst row_Clone_p0
  simp only
  rw [clone_p_eq l h]
  simp only [Option.bind_some, out1_inl]
  rw [show ((0 : Int)) = ((0 : Nat) : Int) from rfl, hl]
  rcases hy with ⟨h1, rfl⟩ | ⟨h1, c, rfl⟩
  · exact .inl ⟨h1, rfl⟩
  · exact .inr ⟨h1, rfl⟩

theorem ref15_Subst_eq (l : List V_api_Slot) (h : l.length ≤ 1100000) (names : List Int) : Subs names l (ref15_Subst ((l, ()), names, ())) := by
  have h1 : ∃ y, (((∀ s ∈ l, good names s) ∧ y = .inr (.inl (l.map (named names), (l, ()), ([], ()), ()))) ∨ ((¬ ∀ s ∈ l, good names s) ∧ ∃ c, y = .inl ((7 : Int), (l, ()), ((), ()), c, ()))) ∧
      lim ref15_Subst_l6_step ((l, ()), (([] : List V_api_Slot), ()), names, ([] : List V_api_Slot), ((0 : Nat) : Int), ()) = some y := by
    refine lim_ex (fun x => ∃ k : Nat, k ≤ l.length ∧ (∀ s ∈ l.take k, good names s) ∧ x = ((l, ()), ([], ()), names, (l.take k).map (named names), (k : Int), ())) (fun x => l.length - x.2.2.2.2.1.toNat) _ (fun x hx => ?_) ⟨0, by omega, by simp, by simp⟩
    obtain ⟨k, hk, hg, rfl⟩ := hx
    unfold ref15_Subst_l6_step
    simp only
    by_cases h : k < l.length
    · rw [dlt h, inB_nat h, wrap_succ (by omega), rdL_nat _ _ h]
      simp only [cond_true, ck_true, cond_or]
      by_cases hb : good names l[k]
      · have hb2 : (decide (l[k].1 < 0) || decide (l[k].1 ≥ (names.length : Int))) = false := by
          rw [Bool.eq_false_iff]
          exact fun e => (bad_or names _).1 e hb
        refine .inr ⟨_, ⟨k + 1, by omega, ?_, ?_⟩, ?_, fun g => by rw [hb2, inB_iff.2 hb, roomB_ok (by simp; omega)]; rfl⟩
        · rw [take_snoc h]
          intro s hs
          rcases List.mem_append.1 hs with hs | hs
          · exact hg s hs
          · rw [List.mem_singleton.1 hs]; exact hb
        · simp only [take_snoc h, List.map_append, List.map_cons, List.map_nil, named, rdL]
          rfl
        · simp only
          omega
      · have hb2 : (decide (l[k].1 < 0) || decide (l[k].1 ≥ (names.length : Int))) = true := (bad_or names _).2 hb
        refine .inl ⟨_, .inr ⟨fun hall => hb (hall _ (List.getElem_mem h)), _, rfl⟩, fun g => by rw [hb2]; rfl⟩
    · have : k = l.length := by omega
      subst this
      refine .inl ⟨_, .inl ⟨by simpa using hg, rfl⟩, fun g => ?_⟩
      rw [dge h]
      simp
  obtain ⟨y, hy, hl⟩ := h1
  unfold ref15_Subst
  simp only
  rw [show ((0 : Int)) = ((0 : Nat) : Int) from rfl, hl]
  rcases hy with ⟨h1, rfl⟩ | ⟨h1, c, rfl⟩
  · exact .inl ⟨h1, rfl⟩
  · exact .inr ⟨h1, rfl⟩
theorem Subs.ok {names : List Int} {l : List V_api_Slot} {y : Option (V_api_Type × Int × Unit)} (h : Subs names l y) : ∃ l' e, y = some ((l', ()), e, ()) ∧ l'.length ≤ l.length := by
  rcases h with ⟨_, rfl⟩ | ⟨_, rfl⟩
  · exact ⟨_, _, rfl, by simp⟩
  · exact ⟨_, _, rfl, by simp⟩


theorem refS_len (l : Slots) (r : Int) (mu : Bool) : (refS l r mu).length = l.length + 1 := by simp [refS]
/-- What a reference leads to. -/
def derefS (l : Slots) : V_api_Type × Int × Bool × Unit := match l with
  | [] => (([], ()), 0, false, ())
  | s :: r => bif s.2.1 then (([], ()), 0, false, ()) else ((r, ()), s.1, true, ())
theorem row_Deref_eq (l : Slots) (h : l.length ≤ 1100000) : row_Deref ((l, ()), ()) = some (derefS l) := by
  unfold row_Deref derefS
  cases l with
  | nil => rfl
  | cons s r =>
    obtain ⟨a, b, _⟩ := s
    simp only
    rw [show (((a, b, ()) :: r : Slots).length : Int) = ((r.length + 1 : Nat) : Int) from rfl, show ((((r.length + 1 : Nat) : Int)) == (0 : Int)) = false from by rw [beq_eq_false_iff_ne]; omega]
    rw [show inB (0 : Int) ((a, b, ()) :: r : Slots).length = true from by simp [inB]]
    have e : rdL t_api_Slot ((a, b, ()) :: r) (0 : Int) = (a, b, ()) := rfl
    rw [e]
    cases b with
    | true => rfl
    | false =>
      have e2 : (((a, false, ()) :: r : Slots).drop (1 : Int).toNat) = r := rfl
      simp only [e2]
      rw [clone_eq r (by simp at h; omega)]
      rw [show (decide ((0 : Int) ≤ (1 : Int)) && decide ((1 : Int) ≤ ((r.length + 1 : Nat) : Int))) = true from by simp; omega]
      rfl

/-! ### sig -/

end Go.XD


/- Plain law of the packages sig and relate against the document's answers. -/
namespace Go.XD

def badB (n : Int) (a : V_easementref08_Pair) : Bool := decide (a.1 < 0) || decide (a.1 ≥ n) || decide (a.2.1 < 0) || decide (a.2.1 ≥ n)
/-- The first type's fault. -/
def tysC (r : Int) : List V_api_Type → Int
  | [] => 0
  | t :: l => bif tC t.1 r != 0 then tC t.1 r else tysC r l
theorem tysC_fold (r : Int) : ∀ (l : List V_api_Type) (i : Nat), (foldE (S := Unit) (fun (_ : Nat) _ (t : V_api_Type) => bif tC t.1 r != 0 then Sum.inl (tC t.1 r) else .inr ()) i () l) = bif tysC r l != 0 then .inl (tysC r l) else .inr ()
  | [], i => rfl
  | t :: l, i => by
    simp only [foldE, tysC]
    cases h : tC t.1 r != 0 with
    | true => simp [h]
    | false =>
      simp only [cond_false]
      exact tysC_fold r l (i + 1)
theorem tysC_app (r : Int) (t : V_api_Type) : ∀ l : List V_api_Type, tysC r (l ++ [t]) = bif tysC r l != 0 then tysC r l else tC t.1 r
  | [] => by
    simp only [List.nil_append, tysC]
    cases h : tC t.1 r != 0 with
    | true => simp
    | false =>
      have : tC t.1 r = 0 := by simpa using h
      simp [this]
  | u :: l => by
    simp only [List.cons_append, tysC]
    cases h : tC u.1 r != 0 with
    | true => simp [h]
    | false =>
      simp only [cond_false]
      exact tysC_app r t l
def sgC (s : V_api_Sig) : Int := bif decide (s.1 < 0) then 7 else bif decide (s.1 > 16) || decide ((s.2.1.length : Int) > 16) || decide ((s.2.2.1.length : Int) > 16) then 6 else bif s.2.1.any (badB s.1) then 7 else tysC s.1 (s.2.2.1 ++ [(s.2.2.2.1, ())])
theorem sig_Check_eq (s : V_api_Sig) : sig_Check (s, ()) = some (sgC s, ()) := by
  obtain ⟨p, bs, ags, ret, _⟩ := s
  unfold sig_Check sgC
  simp only [cond_or]
  cases h1 : decide (p < 0) with
  | true => rfl
  | false =>
    simp only [cond_false]
    cases h2 : decide (p > 16) || decide ((bs.length : Int) > 16) || decide ((ags.length : Int) > 16) with
    | true => rfl
    | false =>
      simp only [Bool.or_eq_false_iff, decide_eq_false_iff_not] at h2
      obtain ⟨⟨g1, g2⟩, g3⟩ := h2
      simp only [cond_false]
      have l1 := lim_any (step := sig_Check_l12_step) bs (badB p) (fun i => ((p, bs, ags, ret, ()), bs, (bs.length : Int), (i : Int), ())) (yes := .inl ((7 : Int), (p, bs, ags, ret, ()), ())) (no := .inr (.inl ((p, bs, ags, ret, ()), ()))) (fun g i hi => by
        unfold sig_Check_l12_step badB
        simp only [dlt hi, cond_true, inB_nat hi, ck_true, rdL_nat t_easementref08_Pair bs hi, cond_or, wrap_succ (show i < 9223372036854775807 by omega)]) (fun g => by
        unfold sig_Check_l12_step
        simp only [dge (Nat.lt_irrefl _), cond_false])
      simp only [Int.natCast_zero] at l1
      first
        | rw [l1]
        | erw [l1]
      cases bs.any (badB p) with
      | true => rfl
      | false =>
        simp only [cond_false, Option.bind_some, out2_inr, List.nil_append]
        rw [roomB_ok (by omega), roomB_ok (by simp; omega)]
        have l2 := lim_foldE (step := sig_Check_l24_step) (ags ++ [(ret, ())]) (fun (_ : Nat) (_ : Unit) (t : V_api_Type) => bif tC t.1 p != 0 then Sum.inl (tC t.1 p) else .inr ()) (fun _ i => ((p, bs, ags, ret, ()), ags ++ [(ret, ())], ((ags ++ [(ret, ())]).length : Int), (i : Int), ())) (fun e => .inl (e, (p, bs, ags, ret, ()), ags ++ [(ret, ())], ())) (fun _ => .inr (.inl ((p, bs, ags, ret, ()), ags ++ [(ret, ())], ()))) (fun _ _ => True) (fun g i s hi _ => by
          have hi' : i < ags.length + 1 := by simpa using hi
          unfold sig_Check_l24_step
          simp only [dlt hi, cond_true, inB_nat hi, ck_true, Int.toNat_natCast, wrap_succ (show i < 9223372036854775807 by omega)]
          rw [getDT (t := t_api_Type) hi]
          rw [show row_Check (((ags ++ [(ret, ())])[i].1, ()), p, ()) = some (tC (ags ++ [(ret, ())])[i].1 p, ()) from row_Check_eq _ _]
          simp only [Option.bind_some]
          cases tC (ags ++ [(ret, ())])[i].1 p != 0 <;> rfl) (fun _ _ _ _ _ _ => trivial) (fun g s _ => by
          unfold sig_Check_l24_step
          simp only [dge (Nat.lt_irrefl _), cond_false]) (s0 := ()) trivial
        rw [tysC_fold] at l2
        simp only [Int.natCast_zero] at l2
        simp only [ck_true]
        first
          | rw [l2]
          | erw [l2]
        cases hz : tysC p (ags ++ [(ret, ())]) != 0 with
        | true => rfl
        | false =>
          have : tysC p (ags ++ [(ret, ())]) = 0 := by simpa using hz
          rw [this]
          rfl
theorem ref17_Check_eq (s : V_api_Sig) : ref17_Check (s, ()) = some (sgC s, ()) := by
  obtain ⟨p, bs, ags, ret, _⟩ := s
  unfold ref17_Check sgC
  simp only [cond_or]
  cases h1 : decide (p < 0) with
  | true => rfl
  | false =>
    simp only [cond_false]
    cases h2 : decide (p > 16) || decide ((bs.length : Int) > 16) || decide ((ags.length : Int) > 16) with
    | true => rfl
    | false =>
      simp only [Bool.or_eq_false_iff, decide_eq_false_iff_not] at h2
      obtain ⟨⟨g1, g2⟩, g3⟩ := h2
      simp only [cond_false]
      have l1 := lim_any (step := ref17_Check_l12_step) bs (badB p) (fun i => ((p, bs, ags, ret, ()), (i : Int), ())) (yes := .inl ((7 : Int), (p, bs, ags, ret, ()), ())) (no := .inr (.inl ((p, bs, ags, ret, ()), ()))) (fun g i hi => by
        unfold ref17_Check_l12_step badB
        simp only [dlt hi, cond_true, inB_nat hi, ck_true, rdL_nat t_easementref08_Pair bs hi, cond_or, wrap_succ (show i < 9223372036854775807 by omega)]) (fun g => by
        unfold ref17_Check_l12_step
        simp only [dge (Nat.lt_irrefl _), cond_false])
      simp only [Int.natCast_zero] at l1
      first
        | rw [l1]
        | erw [l1]
      cases bs.any (badB p) with
      | true => rfl
      | false =>
        simp only [cond_false, Option.bind_some, out2_inr, List.nil_append]
        have l2 := lim_foldE (step := ref17_Check_l24_step) ags (fun (_ : Nat) (_ : Unit) (t : V_api_Type) => bif tC t.1 p != 0 then Sum.inl (tC t.1 p) else .inr ()) (fun _ i => ((p, bs, ags, ret, ()), (i : Int), ())) (fun e => .inl (e, (p, bs, ags, ret, ()), ())) (fun _ => .inr (.inl ((p, bs, ags, ret, ()), ()))) (fun _ _ => True) (fun g i s hi _ => by
          unfold ref17_Check_l24_step
          simp only [dlt hi, cond_true, inB_nat hi, ck_true, rdL_nat t_api_Type ags hi, wrap_succ (show i < 9223372036854775807 by omega)]
          rw [show ref15_Check ((ags[i].1, ()), p, ()) = some (tC ags[i].1 p, ()) from ref15_Check_eq _ _]
          simp only [Option.bind_some]
          cases tC ags[i].1 p != 0 <;> rfl) (fun _ _ _ _ _ _ => trivial) (fun g s _ => by
          unfold ref17_Check_l24_step
          simp only [dge (Nat.lt_irrefl _), cond_false]) (s0 := ()) trivial
        rw [tysC_fold] at l2
        simp only [Int.natCast_zero] at l2
        first
          | rw [l2]
          | erw [l2]
        rw [tysC_app]
        cases hz : tysC p ags != 0 with
        | true => rfl
        | false =>
          simp only [cond_false, Option.bind_some, out2_inr]
          rw [show ref15_Check ((ret, ()), p, ()) = some (tC ret p, ()) from ref15_Check_eq _ _]
          rfl

/-! ### relate -/
abbrev Needs := List V_api_Prov
def relF (b : Slots) (k f : Int) (i : Nat) (s : Needs) (x : V_api_Slot) : Needs :=
  bif (b.getD i (0, false, ())).2.1 then (s ++ [(x.1, (b.getD i (0, false, ())).1, k, IntKind.i64.wrap (f + (i : Int)), false, ())]) ++ [((b.getD i (0, false, ())).1, x.1, k, IntKind.i64.wrap (f + (i : Int)), true, ())]
  else s ++ [(x.1, (b.getD i (0, false, ())).1, k, IntKind.i64.wrap (f + (i : Int)), false, ())]
theorem relF_len (b : Slots) (k f : Int) (i : Nat) (s : Needs) (x : V_api_Slot) : (relF b k f i s x).length ≤ s.length + 2 := by
  unfold relF
  cases (b.getD i (0, false, ())).2.1 <;> simp
def relL (l : Needs) (a b : Slots) (k f : Int) : Needs := foldI (relF b k f) 0 l a
theorem foldI_len {b : Slots} {k f : Int} : ∀ (a : Slots) (i : Nat) (s : Needs), (foldI (relF b k f) i s a).length ≤ s.length + 2 * a.length
  | [], i, s => by simp [foldI]
  | x :: a, i, s => by
    have h1 := relF_len b k f i s x
    have h2 := foldI_len (b := b) (k := k) (f := f) a (i + 1) (relF b k f i s x)
    simp only [foldI, List.length_cons]
    omega
theorem relL_len (l : Needs) (a b : Slots) (k f : Int) : (relL l a b k f).length ≤ l.length + 2 * a.length := foldI_len a 0 l
theorem put_eq {l : Needs} (hl : l.length ≤ 200000000) (u v k s : Int) : relate_maker_put_p0 ((l, ()), u, v, k, s, ()) = some (.inl ((l ++ [(u, v, k, s, false, ())], ()), ())) := by
  unfold relate_maker_put_p0
  simp only
  rw [roomB_ok (by simp; omega)]
  rfl
theorem slots_eq {l : Needs} {a b : Slots} (hl : l.length ≤ 100000000) (ha : a.length ≤ 1100000) (hab : a.length ≤ b.length) (k f : Int) : relate_maker_slots_p0 ((l, ()), a, b, k, f, ()) = some (.inl ((relL l a b k f, ()), ())) := by
  have := lim_foldI (step := relate_maker_slots_p0_l2_step) a (relF b k f) (fun s i => ((s, ()), b, k, f, a, (a.length : Int), (i : Int), ())) (fun s => .inl ((s, ()), ())) (fun i s => s.length ≤ 100000000 + 2 * i) (fun g i s hi hinv => by
    have hb : i < b.length := by omega
    unfold relate_maker_slots_p0_l2_step relate_maker_slots_p0_j73_v
    simp only [dlt hi, cond_true, inB_nat hi, inB_nat hb, ck_true, rdS hi, rdS hb, wrap_succ (show i < 9223372036854775807 by omega)]
    rw [put_eq (by omega)]
    simp only [Option.bind_some, out1_inl]
    unfold relF
    rw [show b.getD i (0, false, ()) = b[i] from getDT (t := t_api_Slot) hb]
    cases b[i].2.1 with
    | true =>
      rw [cond_true, cond_true, roomB_ok (by simp; omega)]
      rfl
    | false => rfl) (fun i s hi hinv => by
    have := relF_len b k f i s a[i]
    omega) (fun g s _ => by
    unfold relate_maker_slots_p0_l2_step
    simp only [dge (Nat.lt_irrefl _), cond_false]) (s0 := l) (by omega)
  simp only [Int.natCast_zero] at this
  unfold relate_maker_slots_p0
  simp only
  first
    | rw [this]
    | erw [this]
  rfl
theorem rslots_eq {l : Needs} {a b : Slots} (hl : l.length ≤ 100000000) (ha : a.length ≤ 1100000) (hab : a.length ≤ b.length) (k f : Int) : ref16_slots_p0 (l, a, b, k, f, ()) = some (.inl (relL l a b k f, ())) := by
  have := lim_foldI (step := ref16_slots_p0_l4_step) a (relF b k f) (fun s i => (s, a, b, k, f, (i : Int), ())) (fun s => .inl (s, ())) (fun i s => s.length ≤ 100000000 + 2 * i) (fun g i s hi hinv => by
    have hb : i < b.length := by omega
    unfold ref16_slots_p0_l4_step ref16_slots_p0_j81_v
    simp only [dlt hi, cond_true, inB_nat hi, inB_nat hb, ck_true, rdS hi, rdS hb, wrap_succ (show i < 9223372036854775807 by omega)]
    rw [roomB_ok (by simp; omega)]
    unfold relF
    rw [show b.getD i (0, false, ()) = b[i] from getDT (t := t_api_Slot) hb]
    cases b[i].2.1 with
    | true =>
      rw [cond_true, cond_true, roomB_ok (by simp; omega)]
      rfl
    | false => rfl) (fun i s hi hinv => by
    have := relF_len b k f i s a[i]
    omega) (fun g s _ => by
    unfold ref16_slots_p0_l4_step
    simp only [dge (Nat.lt_irrefl _), cond_false]) (s0 := l) (by omega)
  simp only [Int.natCast_zero] at this
  unfold ref16_slots_p0
  simp only
  first
    | rw [this]
    | erw [this]
  rfl
def flS (a b : Slots) (k f : Int) : Needs × Int × Unit := bif shB a b then (relL [] a b k f, 0, ()) else ([], 8, ())
theorem Flow_eq (a b : Slots) (ha : a.length ≤ 1100000) (k f : Int) : relate_Flow ((a, ()), (b, ()), k, f, ()) = some (flS a b k f) := by
  unfold relate_Flow flS
  simp only
  rw [row_Shape_eq a b (by omega)]
  simp only [Option.bind_some]
  cases h : shB a b with
  | false => rfl
  | true =>
    simp only [Bool.not_true, cond_false, cond_true]
    rw [slots_eq (by simp) ha (by rw [shB_len h]; exact Nat.le_refl _)]
    rfl
theorem rFlow_eq (a b : Slots) (ha : a.length ≤ 1100000) (k f : Int) : ref16_Flow ((a, ()), (b, ()), k, f, ()) = some (flS a b k f) := by
  unfold ref16_Flow flS
  simp only
  rw [ref15_Shape_eq a b (by omega)]
  simp only [Option.bind_some]
  cases h : shB a b with
  | false => rfl
  | true =>
    simp only [Bool.not_true, cond_false, cond_true]
    rw [rslots_eq (by simp) ha (by rw [shB_len h]; exact Nat.le_refl _)]
    rfl
def loS (a b : Slots) (r : Int) (mu : Bool) : Needs × Int × Unit := bif shB (refS a r mu) b then (relL [(r, (b.getD 0 (0, false, ())).1, 2, 0, false, ())] a (b.drop 1) 1 1, 0, ()) else ([], 8, ())
theorem head_ck {b : Slots} {m : Nat} (h : m + 1 = b.length) : inB (0 : Int) b.length = true ∧ (decide ((0 : Int) ≤ (1 : Int)) && decide ((1 : Int) ≤ (b.length : Int))) = true ∧ rdL t_api_Slot b (0 : Int) = b.getD 0 (0, false, ()) ∧ b.drop (1 : Int).toNat = b.drop 1 ∧ (b.drop 1).length = m := by
  refine ⟨by simp [inB]; omega, by simp; omega, rfl, rfl, by simp; omega⟩
theorem Loan_eq (a b : Slots) (ha : a.length ≤ 1099999) (r : Int) (mu : Bool) : relate_Loan ((a, ()), (b, ()), r, mu, ()) = some (loS a b r mu) := by
  unfold relate_Loan loS
  simp only
  rw [row_Ref_eq a (by omega)]
  simp only [Option.bind_some]
  rw [row_Shape_eq _ _ (by rw [refS_len]; omega)]
  simp only [Option.bind_some]
  cases h : shB (refS a r mu) b with
  | false => rfl
  | true =>
    have hl := shB_len h
    rw [refS_len] at hl
    obtain ⟨c1, c2, c3, c4, c5⟩ := head_ck hl
    simp only [Bool.not_true, cond_false, cond_true]
    rw [c1, c2, c3, c4, ck_true, put_eq (by simp)]
    simp only [Option.bind_some, out1_inl, ck_true, List.nil_append]
    rw [slots_eq (by simp) (by omega) (by omega)]
    rfl
theorem rLoan_eq (a b : Slots) (ha : a.length ≤ 1099999) (r : Int) (mu : Bool) : ref16_Loan ((a, ()), (b, ()), r, mu, ()) = some (loS a b r mu) := by
  unfold ref16_Loan loS
  simp only
  rw [ref15_Ref_eq a (by omega)]
  simp only [Option.bind_some]
  rw [ref15_Shape_eq _ _ (by rw [refS_len]; omega)]
  simp only [Option.bind_some]
  cases h : shB (refS a r mu) b with
  | false => rfl
  | true =>
    have hl := shB_len h
    rw [refS_len] at hl
    obtain ⟨c1, c2, c3, c4, c5⟩ := head_ck hl
    simp only [Bool.not_true, cond_false, cond_true]
    rw [c1, c2, c3, c4, ck_true, ck_true, rslots_eq (by simp) (by omega) (by omega)]
    rfl
def agS (a b : Slots) (r : Int) (mu : Bool) : Needs × Int × Unit := match a with
  | [] => ([], 8, ())
  | s :: a' => bif s.2.1 || !(shB a b) || (mu && a'.any fun x => !x.2.1) then ([], 8, ()) else (relL [(s.1, r, 3, 0, false, ()), (r, (b.getD 0 (0, false, ())).1, 2, 0, false, ())] a' (b.drop 1) 1 1, 0, ())
theorem any_and {α : Type} (m : Bool) (p : α → Bool) : ∀ l : List α, (l.any fun x => m && p x) = (m && l.any p)
  | [] => by simp
  | a :: l => by
    simp only [List.any_cons, any_and m p l]
    cases m <;> simp
theorem again_loop (a : Slots) (ha : a.length ≤ 1100000) (mu : Bool) : lim relate_Again_l12_step (mu, a, (a.length : Int), (0 : Int), ()) = some (bif mu && a.any (fun x => !x.2.1) then .inl (([] : Needs), (8 : Int), ()) else .inr (.inl ())) := by
  have := lim_any (step := relate_Again_l12_step) a (fun x => mu && !x.2.1) (fun i => (mu, a, (a.length : Int), (i : Int), ())) (yes := .inl (([] : Needs), (8 : Int), ())) (no := .inr (.inl ())) (fun g i hi => by
    unfold relate_Again_l12_step
    simp only [dlt hi, cond_true, inB_nat hi, ck_true, rdS hi, cond_and, wrap_succ (show i < 9223372036854775807 by omega)]) (fun g => by
    unfold relate_Again_l12_step
    simp only [dge (Nat.lt_irrefl _), cond_false])
  rw [any_and] at this
  exact this
theorem ragain_loop (s : V_api_Slot) (a : Slots) (ha : a.length ≤ 1100000) (mu : Bool) : lim ref16_Again_l8_step ((s :: a, ()), mu, (1 : Int), ()) = some (bif mu && a.any (fun x => !x.2.1) then .inl (([] : Needs), (8 : Int), (s :: a, ()), ()) else .inr (.inl ((s :: a, ()), ()))) := by
  have := lim_any (step := ref16_Again_l8_step) a (fun x => mu && !x.2.1) (fun i => ((s :: a, ()), mu, ((i + 1 : Nat) : Int), ())) (yes := .inl (([] : Needs), (8 : Int), (s :: a, ()), ())) (no := .inr (.inl ((s :: a, ()), ()))) (fun g i hi => by
    have hi' : i + 1 < (s :: a).length := by simp; omega
    unfold ref16_Again_l8_step
    simp only [dlt hi', cond_true, inB_nat hi', ck_true, Bool.true_or, rdS hi', cond_and, wrap_succ (show i + 1 < 9223372036854775807 by omega), List.getElem_cons_succ]) (fun g => by
    unfold ref16_Again_l8_step
    rw [show (((s :: a, ()), mu, ((a.length + 1 : Nat) : Int), ()) : V_api_Type × Bool × Int × Unit).1.1.length = a.length + 1 from rfl]
    simp only [dge (Nat.lt_irrefl _), cond_false])
  rw [any_and] at this
  exact this
theorem Again_eq (a b : Slots) (ha : a.length ≤ 1100000) (hb : b.length ≤ 1100000) (r : Int) (mu : Bool) : relate_Again ((a, ()), (b, ()), r, mu, ()) = some (agS a b r mu) := by
  unfold relate_Again agS
  simp only
  rw [row_Deref_eq a ha, row_Deref_eq b hb]
  simp only [Option.bind_some]
  cases a with
  | nil => rfl
  | cons s a' =>
    obtain ⟨s1, s2, _⟩ := s
    cases s2 with
    | true => rfl
    | false =>
      cases hs : shB ((s1, false, ()) :: a') b with
      | false =>
        simp only [derefS, cond_false, Bool.not_true, Bool.not_false, Bool.false_or, Bool.true_or, cond_true]
        cases b with
        | nil => rfl
        | cons t b' =>
          obtain ⟨t1, t2, _⟩ := t
          cases t2 with
          | true => rfl
          | false =>
            simp only [derefS, cond_false, Bool.not_true, Bool.not_false, cond_true]
            rw [row_Shape_eq _ _ (by simp at ha ⊢; omega), hs]
            rfl
      | true =>
        have hl := shB_len hs
        cases b with
        | nil => simp at hl
        | cons t b' =>
          obtain ⟨t1, t2, _⟩ := t
          have ht : t2 = false := by
            unfold shB at hs
            simp at hs
            exact hs.1
          subst ht
          simp only [derefS, cond_false, Bool.not_true, Bool.not_false, cond_true, Bool.false_or]
          rw [row_Shape_eq _ _ (by simp at ha ⊢; omega), hs]
          simp only [Option.bind_some, Bool.not_true, cond_false]
          rw [again_loop a' (by simp at ha; omega)]
          cases (mu && a'.any fun x => !x.2.1) with
          | true => rfl
          | false =>
            obtain ⟨c1, c2, c3, c4, c5⟩ := head_ck (b := ((t1, false, ()) :: b' : Slots)) (m := b'.length) rfl
            simp only [cond_false, Option.bind_some, out2_inr]
            rw [put_eq (by simp)]
            simp only [Option.bind_some, out1_inl]
            rw [c1, c2, c3, c4, ck_true, put_eq (by simp)]
            simp only [Option.bind_some, out1_inl, ck_true]
            rw [slots_eq (by simp) (by simp at ha; omega) (by simp at hl; simp; omega)]
            rfl
theorem rAgain_eq (a b : Slots) (ha : a.length ≤ 1100000) (r : Int) (mu : Bool) : ref16_Again ((a, ()), (b, ()), r, mu, ()) = some (agS a b r mu) := by
  unfold ref16_Again agS
  simp only
  cases a with
  | nil => rfl
  | cons s a' =>
    have hne : (((s :: a' : Slots).length : Int) == (0 : Int)) = false := by rw [beq_eq_false_iff_ne]; simp; omega
    obtain ⟨c1, c2, c3, c4, c5⟩ := head_ck (b := (s :: a' : Slots)) (m := a'.length) rfl
    rw [hne, ref15_Shape_eq _ _ (by simp at ha ⊢; omega)]
    simp only [Bool.not_false, cond_true, Option.bind_some, c1, Bool.true_or, ck_true, cond_or, c3]
    rw [show (s :: a').getD 0 (0, false, ()) = s from rfl]
    cases hs : shB (s :: a') b with
    | false => simp
    | true =>
      cases s.2.1 with
      | true => simp
      | false =>
        simp only [Bool.not_true, Bool.or_false, Bool.false_or, cond_false]
        rw [ragain_loop s a' (by simp at ha; omega)]
        cases (mu && a'.any fun x => !x.2.1) with
        | true => rfl
        | false =>
          have hl := shB_len hs
          obtain ⟨d1, d2, d3, d4, d5⟩ := head_ck (b := b) (m := a'.length) (by simpa using hl)
          simp only [cond_false, Option.bind_some, out2_inr]
          rw [c1, c2, c3, c4, d1, d2, d3, d4]
          simp only [ck_true]
          rw [rslots_eq (by simp) (by simp at ha ⊢; omega) (by simp at hl ⊢; omega)]
          rfl
/-! ### The same, of types -/
theorem Flow_eqT (a b : V_api_Type) (ha : a.1.length ≤ 1100000) (k f : Int) : relate_Flow (a, b, k, f, ()) = some (flS a.1 b.1 k f) := Flow_eq a.1 b.1 ha k f
theorem rFlow_eqT (a b : V_api_Type) (ha : a.1.length ≤ 1100000) (k f : Int) : ref16_Flow (a, b, k, f, ()) = some (flS a.1 b.1 k f) := rFlow_eq a.1 b.1 ha k f
end Go.XD


/- Plain law of the packages stmt and term against the document's answers. -/
namespace Go.XD

/-! ### stmt -/
def dstK (k : Int) : Bool := (k == 1) || (k == 2) || (k == 3) || (k == 5)
def srcK (k : Int) : Bool := decide (k ≥ 1) && decide (k ≤ 4)
def regK (k : Int) : Bool := (k == 2) || (k == 3)
def stF (s : V_api_Prov) : Bool := (decide (s.1 ≥ 0) && decide (s.1 ≤ 5)) && ((dstK s.1 || (s.2.1 == 0)) && ((srcK s.1 || (s.2.2.1 == 0)) && (regK s.1 || ((s.2.2.2.1 == 0) && !s.2.2.2.2.1))))
theorem icomm (a b : Int) : (a == b) = (b == a) := by
  rw [Bool.eq_iff_iff, beq_iff_eq, beq_iff_eq]
  exact eq_comm
theorem bcomm (a : Bool) : (false == a) = !a := by cases a <;> rfl
theorem rForm_eq (s : V_api_Prov) : ref18_Form (s, ()) = some (stF s, ()) := by
  obtain ⟨k, d, sr, r, m, _⟩ := s
  unfold ref18_Form ref18_Dst ref18_Src ref18_Region stF dstK srcK regK
  simp only [cond_or, cond_and, Option.bind_some]
  cases (decide (k ≥ 0) && decide (k ≤ 5)) <;> cases ((k == 1) || (k == 2) || (k == 3) || (k == 5)) <;> cases (decide (k ≥ 1) && decide (k ≤ 4)) <;> cases (d == 0) <;> cases (sr == 0) <;> rfl
theorem form_eq (s : V_api_Prov) : stmt_form (s, ()) = some ((dstK s.1, srcK s.1, regK s.1, ()), stF s, ()) := by
  obtain ⟨k, d, sr, r, m, _⟩ := s
  have hk : k = 0 ∨ k = 1 ∨ k = 2 ∨ k = 3 ∨ k = 4 ∨ k = 5 ∨ (k ≠ 0 ∧ k ≠ 1 ∧ k ≠ 2 ∧ k ≠ 3 ∧ k ≠ 4 ∧ k ≠ 5 ∧ (k < 0 ∨ k > 5)) := by omega
  unfold stmt_form stmt_of stmt_of_j23_v stmt_form_j35_v stmt_form_j45_v stmt_form_j55_v stF dstK srcK regK
  rcases hk with rfl | rfl | rfl | rfl | rfl | rfl | ⟨h0, h1, h2, h3, h4, h5, h6⟩
  · simp [icomm 0, bcomm]
  · simp [icomm 0, bcomm]
  · simp [icomm 0, bcomm]
  · simp [icomm 0, bcomm]
  · simp [icomm 0, bcomm]
  · simp [icomm 0, bcomm]
  · have e : ∀ c : Int, k ≠ c → (k == c) = false := fun c h => beq_eq_false_iff_ne.2 h
    have e1 : (decide (k ≥ 0) && decide (k ≤ 5)) = false := by
      rw [Bool.eq_false_iff]
      intro h
      simp only [Bool.and_eq_true, decide_eq_true_eq] at h
      omega
    have e2 : (decide (k ≥ 1) && decide (k ≤ 4)) = false := by
      rw [Bool.eq_false_iff]
      intro h
      simp only [Bool.and_eq_true, decide_eq_true_eq] at h
      omega
    simp only [e 0 h0, e 1 h1, e 2 h2, e 3 h3, e 4 h4, e 5 h5, e1, e2, cond_false, Option.bind_some, out1_inl, Bool.false_or, Bool.false_and]
/-- The type of a local. -/
def tyA (ls : List V_api_Type) (i : Int) : Slots := (rdL t_api_Type ls i).1
def TySm (ls : List V_api_Type) : Prop := ∀ t ∈ ls, t.1.length ≤ 1099999
theorem tyA_len {ls : List V_api_Type} (h : TySm ls) (i : Int) : (tyA ls i).length ≤ 1099999 := by
  unfold tyA rdL
  rw [List.getD_eq_getElem?_getD]
  cases hq : ls[i.toNat]? with
  | none => simp [Ty.dflt]
  | some t => exact h t (List.mem_of_getElem? hq)
def outB (i : Int) (n : Int) : Bool := decide (i < 0) || decide (i ≥ n)
theorem inB_out {i : Int} {n : Nat} : inB i n = !(outB i n) := by
  unfold inB outB
  rw [Bool.eq_iff_iff]
  simp only [Bool.and_eq_true, decide_eq_true_eq, Bool.not_eq_true', Bool.or_eq_false_iff, decide_eq_false_iff_not]
  omega
def stN (s : V_api_Prov) (ls : List V_api_Type) : Needs × Int × Unit :=
  bif s.1 == 1 then flS (tyA ls s.2.2.1) (tyA ls s.2.1) 1 0 else bif s.1 == 2 then loS (tyA ls s.2.2.1) (tyA ls s.2.1) s.2.2.2.1 s.2.2.2.2.1 else bif s.1 == 3 then agS (tyA ls s.2.2.1) (tyA ls s.2.1) s.2.2.2.1 s.2.2.2.2.1 else ([], 0, ())
/-- Does a statement stand beyond what there is? -/
def stO (s : V_api_Prov) (ls : List V_api_Type) (r : Int) : Bool := (dstK s.1 && outB s.2.1 ls.length) || (srcK s.1 && outB s.2.2.1 ls.length) || (regK s.1 && outB s.2.2.2.1 r)
def stS (s : V_api_Prov) (ls : List V_api_Type) (r : Int) : Needs × Int × Unit := bif !(stF s) then ([], 3, ()) else bif stO s ls r then ([], 7, ()) else stN s ls
theorem stO_in {s : V_api_Prov} {ls : List V_api_Type} {r : Int} (h : stO s ls r = false) : (dstK s.1 = true → inB s.2.1 ls.length = true) ∧ (srcK s.1 = true → inB s.2.2.1 ls.length = true) := by
  unfold stO at h
  simp only [Bool.or_eq_false_iff, Bool.and_eq_false_iff] at h
  rw [inB_out, inB_out]
  constructor
  · intro e
    rcases h.1.1 with h' | h'
    · rw [e] at h'; cases h'
    · rw [h']; rfl
  · intro e
    rcases h.1.2 with h' | h'
    · rw [e] at h'; cases h'
    · rw [h']; rfl
theorem needs_eq (s : V_api_Prov) (ls : List V_api_Type) (hs : TySm ls) (h1 : dstK s.1 = true → inB s.2.1 ls.length = true) (h2 : srcK s.1 = true → inB s.2.2.1 ls.length = true) : stmt_needs (s, ls, ()) = some (stN s ls) := by
  have l1 := tyA_len hs s.2.2.1
  have l2 := tyA_len hs s.2.1
  unfold stmt_needs stN
  simp only
  by_cases k1 : s.1 = 1
  · have d : dstK s.1 = true := by rw [k1]; rfl
    have c : srcK s.1 = true := by rw [k1]; rfl
    rw [h1 d, h2 c, show (s.1 == (1 : Int)) = true from by rw [k1]; rfl]
    simp only [cond_true, ck_true]
    change Option.bind (relate_Flow ((tyA ls s.2.2.1, ()), (tyA ls s.2.1, ()), (1 : Int), (0 : Int), ())) _ = _
    rw [Flow_eq _ _ (by omega)]
    rfl
  · rw [show (s.1 == (1 : Int)) = false from beq_eq_false_iff_ne.2 k1]
    by_cases k2 : s.1 = 2
    · have d : dstK s.1 = true := by rw [k2]; rfl
      have c : srcK s.1 = true := by rw [k2]; rfl
      rw [h1 d, h2 c, show (s.1 == (2 : Int)) = true from by rw [k2]; rfl]
      simp only [cond_true, cond_false, ck_true]
      change Option.bind (relate_Loan ((tyA ls s.2.2.1, ()), (tyA ls s.2.1, ()), s.2.2.2.1, s.2.2.2.2.1, ())) _ = _
      rw [Loan_eq _ _ (by omega)]
      rfl
    · rw [show (s.1 == (2 : Int)) = false from beq_eq_false_iff_ne.2 k2]
      by_cases k3 : s.1 = 3
      · have d : dstK s.1 = true := by rw [k3]; rfl
        have c : srcK s.1 = true := by rw [k3]; rfl
        rw [h1 d, h2 c, show (s.1 == (3 : Int)) = true from by rw [k3]; rfl]
        simp only [cond_true, cond_false, ck_true]
        change Option.bind (relate_Again ((tyA ls s.2.2.1, ()), (tyA ls s.2.1, ()), s.2.2.2.1, s.2.2.2.2.1, ())) _ = _
        rw [Again_eq _ _ (by omega) (by omega)]
        rfl
      · rw [show (s.1 == (3 : Int)) = false from beq_eq_false_iff_ne.2 k3]
        rfl
theorem stCheck_eq (s : V_api_Prov) (ls : List V_api_Type) (hs : TySm ls) (r : Int) : stmt_Check (s, ls, r, ()) = some ((stS s ls r).2.1, ()) := by
  have hn := needs_eq s ls hs
  unfold stmt_Check stS
  obtain ⟨k, d, sr, rg, m, ⟨⟩⟩ := s
  simp only
  rw [form_eq (k, d, sr, rg, m, ())]
  simp only [Option.bind_some]
  cases hF : stF (k, d, sr, rg, m, ()) with
  | false => rfl
  | true =>
    simp only [Bool.not_true, cond_false, cond_or, cond_and]
    have e1 : ∀ (i : Int) (n : Int), (decide (i < 0) || decide (i ≥ n)) = outB i n := fun _ _ => rfl
    simp only [e1]
    unfold stmt_Check_j39_v stmt_Check_j39x_v
    simp only [cond_or, cond_and, e1]
    cases hO : stO (k, d, sr, rg, m, ()) ls r with
    | true =>
      have hO' := hO
      unfold stO at hO'
      simp only at hO'
      cases c1 : (dstK k && outB d ls.length) with
      | true => rfl
      | false =>
        cases c2 : (srcK k && outB sr ls.length) with
        | true => rfl
        | false =>
          rw [c1, c2] at hO'
          simp only [Bool.false_or] at hO'
          simp only [cond_false, Option.bind_some, out1_inl, hO']
          rfl
    | false =>
      have hO' := hO
      unfold stO at hO'
      simp only [Bool.or_eq_false_iff] at hO'
      obtain ⟨⟨c1, c2⟩, c3⟩ := hO'
      obtain ⟨i1, i2⟩ := stO_in hO
      simp only [c1, c2, c3, cond_false, Option.bind_some, out1_inl]
      rw [hn i1 i2]
      rfl
theorem rstNeeds_eq (s : V_api_Prov) (ls : List V_api_Type) (hs : TySm ls) (r : Int) : ref18_Needs (s, ls, r, ()) = some (stS s ls r) := by
  have l1 := tyA_len hs s.2.2.1
  have l2 := tyA_len hs s.2.1
  unfold ref18_Needs stS
  obtain ⟨k, d, sr, rg, m, ⟨⟩⟩ := s
  simp only at l1 l2 ⊢
  rw [rForm_eq (k, d, sr, rg, m, ())]
  simp only [Option.bind_some]
  cases hF : stF (k, d, sr, rg, m, ()) with
  | false => rfl
  | true =>
    have eD : ref18_Dst (k, ()) = some (dstK k, ()) := by unfold ref18_Dst dstK; simp only [cond_or]
    have eS : ref18_Src (k, ()) = some (srcK k, ()) := by unfold ref18_Src srcK; simp only [cond_and]
    have eR : ref18_Region (k, ()) = some (regK k, ()) := by unfold ref18_Region regK; simp only [cond_or]
    have e1 : ∀ (i : Int) (n : Int), (decide (i < 0) || decide (i ≥ n)) = outB i n := fun _ _ => rfl
    simp only [Bool.not_true, cond_false, cond_or, cond_and, eD, eS, eR, Option.bind_some, e1]
    cases hO : stO (k, d, sr, rg, m, ()) ls r with
    | true =>
      have hO' := hO
      unfold stO at hO'
      simp only at hO'
      cases c1 : (dstK k && outB d ls.length) with
      | true => rfl
      | false =>
        cases c2 : (srcK k && outB sr ls.length) with
        | true => rfl
        | false =>
          rw [c1, c2] at hO'
          simp only [Bool.false_or] at hO'
          simp only [Bool.not_false, cond_true, hO']
    | false =>
      have hO' := hO
      unfold stO at hO'
      simp only [Bool.or_eq_false_iff] at hO'
      obtain ⟨⟨c1, c2⟩, c3⟩ := hO'
      obtain ⟨i1, i2⟩ := stO_in hO
      simp only [c1, c2, c3, cond_false, cond_true, Bool.not_false]
      unfold stN
      simp only at i1 i2 ⊢
      rw [show rdL t_api_Type ls sr = (tyA ls sr, ()) from rfl, show rdL t_api_Type ls d = (tyA ls d, ()) from rfl]
      by_cases k1 : k = 1
      · subst k1
        rw [i1 rfl, i2 rfl, rFlow_eq _ _ (by omega)]
        rfl
      · rw [show (k == (1 : Int)) = false from beq_eq_false_iff_ne.2 k1]
        by_cases k2 : k = 2
        · subst k2
          rw [i1 rfl, i2 rfl, rLoan_eq _ _ (by omega)]
          rfl
        · rw [show (k == (2 : Int)) = false from beq_eq_false_iff_ne.2 k2]
          by_cases k3 : k = 3
          · subst k3
            rw [i1 rfl, i2 rfl, rAgain_eq _ _ (by omega)]
            rfl
          · rw [show (k == (3 : Int)) = false from beq_eq_false_iff_ne.2 k3]
            rfl
end Go.XD


/- Plain law of the packages sig (calls) and term against the document's answers. -/
namespace Go.XD

/-! ### Form -/
theorem posB (n : Nat) : decide ((n : Int) > 0) = ((n : Int) != 0) := by
  cases n with
  | zero => rfl
  | succ k => rw [decide_eq_true (by omega), bne, beq_eq_false_iff_ne.2 (by omega)]; rfl
theorem maxB (n : Nat) : ((n : Int) != maxI 1 (n : Int)) = ((n : Int) == 0) := by
  unfold maxI
  cases n with
  | zero => rfl
  | succ k =>
    rw [beq_eq_false_iff_ne.2 (by omega)]
    split
    · simp
    · rw [show ((k + 1 : Nat) : Int) = 1 from by omega]; rfl
def manyT (t : V_api_Term) : Bool := decide ((t.2.2.2.1.length : Int) > 16) || decide ((t.2.2.2.2.1.length : Int) > 16) || decide ((t.2.2.2.2.2.1.length : Int) > 16)
def teF (t : V_api_Term) : Int :=
  bif decide (t.1 < 1) || decide (t.1 > 4) then 3 else
  bif (((t.1 == 1) || (t.1 == 4)) && ((t.2.2.2.1.length : Int) != 1)) || ((t.1 == 2) && ((t.2.2.2.1.length : Int) == 0)) || ((t.1 == 3) && ((t.2.2.2.1.length : Int) != 0)) then 3 else
  bif (t.1 != 4) && ((t.2.1 != 0) || (t.2.2.1 != 0) || ((t.2.2.2.2.2.1.length : Int) != 0)) then 3 else
  bif ((t.1 == 1) || (t.1 == 3)) && ((t.2.2.2.2.1.length : Int) != 0) then 3 else bif manyT t then 6 else 0
theorem rTForm_eq (t : V_api_Term) : ref19_Form (t, ()) = some (teF t, ()) := by
  unfold ref19_Form teF manyT
  simp only [cond_or, cond_and]
  cases (decide (t.1 < 1) || decide (t.1 > 4)) <;> (try rfl)
  cases ((((t.1 == 1) || (t.1 == 4)) && ((t.2.2.2.1.length : Int) != 1)) || ((t.1 == 2) && ((t.2.2.2.1.length : Int) == 0)) || ((t.1 == 3) && ((t.2.2.2.1.length : Int) != 0))) <;> (try rfl)
  cases ((t.1 != 4) && ((t.2.1 != 0) || (t.2.2.1 != 0) || ((t.2.2.2.2.2.1.length : Int) != 0))) <;> (try rfl)
  cases (((t.1 == 1) || (t.1 == 3)) && ((t.2.2.2.2.1.length : Int) != 0)) <;> (try rfl)
  simp only [cond_false]
  cases (decide ((t.2.2.2.1.length : Int) > 16) || decide ((t.2.2.2.2.1.length : Int) > 16) || decide ((t.2.2.2.2.2.1.length : Int) > 16)) <;> rfl
def tBad (t : V_api_Term) (n : Int) : Bool := ((t.2.2.2.1.length : Int) != n) || (!(t.1 == 4) && ((t.2.1 != 0) || (t.2.2.1 != 0) || ((t.2.2.2.2.2.1.length : Int) != 0))) || (!(t.1 == 4) && (t.1 != 2) && ((t.2.2.2.2.1.length : Int) != 0))
def tTail (t : V_api_Term) (n : Int) : Int := bif tBad t n then 3 else bif manyT t then 6 else 0
theorem j43_eq (t : V_api_Term) (c b : Bool) : term_form_j43_v (t, c, b, ()) = some (.inl (b || (!c && ((t.2.1 != 0) || (t.2.2.1 != 0) || ((t.2.2.2.2.2.1.length : Int) != 0))) || (!c && (t.1 != 2) && ((t.2.2.2.2.1.length : Int) != 0)), t, ())) := by
  unfold term_form_j43_v term_form_j43x_v
  simp only [cond_or, cond_and, posB]
  cases b with
  | true => rfl
  | false =>
    cases (!c && ((t.2.1 != 0) || (t.2.2.1 != 0) || ((t.2.2.2.2.2.1.length : Int) != 0))) with
    | true => rfl
    | false => rfl
theorem tForm_eq0 (t : V_api_Term) : term_form (t, ()) = some (bif (t.1 == 1) || (t.1 == 4) then tTail t 1 else bif t.1 == 2 then tTail t (maxI 1 (t.2.2.2.1.length : Int)) else bif t.1 == 3 then tTail t 0 else 3, ()) := by
  have fin : ∀ n : Int, (Option.bind (term_form_j43_v (t, t.1 == (4 : Int), (t.2.2.2.1.length : Int) != n, ())) fun y10 => out1 y10
            (fun z11 =>
              cond (z11.1)
                (some ((3 : Int), ()))
                (cond (cond (cond (decide ((z11.2.1.2.2.2.1.length : Int) > (16 : Int))) true (decide ((z11.2.1.2.2.2.2.1.length : Int) > (16 : Int)))) true (decide ((z11.2.1.2.2.2.2.2.1.length : Int) > (16 : Int))))
                  (some ((6 : Int), ()))
                  (some ((0 : Int), ()))))) = some (tTail t n, ()) := fun n => by
    rw [j43_eq]
    simp only [Option.bind_some, out1_inl, cond_or]
    unfold tTail tBad manyT
    cases (((t.2.2.2.1.length : Int) != n) || (!(t.1 == 4) && ((t.2.1 != 0) || (t.2.2.1 != 0) || ((t.2.2.2.2.2.1.length : Int) != 0))) || (!(t.1 == 4) && (t.1 != 2) && ((t.2.2.2.2.1.length : Int) != 0))) with
    | true => rfl
    | false =>
      simp only [cond_false]
      cases (decide ((t.2.2.2.1.length : Int) > 16) || decide ((t.2.2.2.2.1.length : Int) > 16) || decide ((t.2.2.2.2.2.1.length : Int) > 16)) <;> rfl
  unfold term_form term_form_j21_v term_form_j21x_v term_form_j27_v
  simp only
  have f1 := fin 1
  have f2 := fin (maxI 1 (t.2.2.2.1.length : Int))
  have f3 := fin 0
  obtain ⟨k, sg, d, to, ar, pa, ⟨⟩⟩ := t
  simp only at f1 f2 f3 ⊢
  cases h1 : k == 1 with
  | true =>
    simp only [cond_true, Option.bind_some, out1_inl, out2_inl, Bool.true_or]
    exact f1
  | false =>
    cases h4 : k == 4 with
    | true =>
      simp only [cond_true, cond_false, Option.bind_some, out1_inl, out2_inl, Bool.or_true]
      rw [h4] at f1
      exact f1
    | false =>
      rw [h4] at f1 f2 f3
      cases h2 : k == 2 with
      | true =>
        simp only [cond_true, cond_false, Option.bind_some, out1_inl, out2_inl, Bool.or_false]
        exact f2
      | false =>
        cases h3 : k == 3 with
        | true =>
          simp only [cond_true, cond_false, Option.bind_some, out1_inl, out2_inl, Bool.or_false]
          exact f3
        | false =>
          simp only [cond_true, cond_false, Option.bind_some, out1_inl, out2_inl, out2_inr, Bool.or_false]
theorem tForm_eq (t : V_api_Term) : term_form (t, ()) = some (teF t, ()) := by
  rw [tForm_eq0]
  have hk : t.1 = 1 ∨ t.1 = 2 ∨ t.1 = 3 ∨ t.1 = 4 ∨ (t.1 ≠ 1 ∧ t.1 ≠ 2 ∧ t.1 ≠ 3 ∧ t.1 ≠ 4 ∧ (t.1 < 1 ∨ t.1 > 4)) := by omega
  unfold teF tTail tBad
  rw [maxB]
  generalize ((t.2.1 != 0) || (t.2.2.1 != 0) || ((t.2.2.2.2.2.1.length : Int) != 0)) = A
  generalize ((t.2.2.2.2.1.length : Int) != 0) = B
  have hz : ((t.2.2.2.1.length : Int) != 0) = !((t.2.2.2.1.length : Int) == 0) := rfl
  rw [hz]
  generalize ((t.2.2.2.1.length : Int) == 0) = C
  generalize ((t.2.2.2.1.length : Int) != 1) = D
  generalize manyT t = E
  rcases hk with h | h | h | h | ⟨h1, h2, h3, h4, h5⟩
  · rw [h]
    cases A <;> cases B <;> cases C <;> cases D <;> cases E <;> rfl
  · rw [h]
    cases A <;> cases B <;> cases C <;> cases D <;> cases E <;> rfl
  · rw [h]
    cases A <;> cases B <;> cases C <;> cases D <;> cases E <;> rfl
  · rw [h]
    cases A <;> cases B <;> cases C <;> cases D <;> cases E <;> rfl
  · rw [beq_eq_false_iff_ne.2 h1, beq_eq_false_iff_ne.2 h2, beq_eq_false_iff_ne.2 h3, beq_eq_false_iff_ne.2 h4]
    have : (decide (t.1 < 1) || decide (t.1 > 4)) = true := by simp; omega
    rw [this]
    rfl

/-! ### Lists within -/
theorem within_eq (l : List Int) (hl : l.length ≤ 100000000) (n : Int) : ref19_within (l, n, ()) = some (!(l.any fun i => outB i n), ()) := by
  have := lim_any (step := ref19_within_l4_step) l (fun i => outB i n) (fun i => (l, n, (i : Int), ())) (yes := .inl (false, ())) (no := .inr (.inl ())) (fun g i hi => by
    unfold ref19_within_l4_step outB
    simp only [dlt hi, cond_true, inB_nat hi, ck_true, Bool.true_or, rdL_nat (.int .i64) l hi, cond_or, wrap_succ (show i < 9223372036854775807 by omega)]) (fun g => by
    unfold ref19_within_l4_step
    simp only [dge (Nat.lt_irrefl _), cond_false])
  simp only [Int.natCast_zero] at this
  unfold ref19_within
  simp only
  first
    | rw [this]
    | erw [this]
  cases l.any fun i => outB i n <;> rfl
theorem beyond_eq (i n : Int) : term_beyond_1 (i, some (n, ()), ()) = some (outB i n, ()) := by
  unfold term_beyond_1 outB
  simp only [Option.isSome_some, Bool.true_or, ck_true, cond_or, Option.getD_some]
theorem foldE_ix {p : Int → Bool} : ∀ (l : List Int) (i : Nat), (match foldE (S := Unit) (fun (i : Nat) _ (a : Int) => bif p a then Sum.inl i else .inr ()) i () l with
    | .inl (i : Nat) => decide ((i : Int) ≥ 0)
    | .inr _ => decide ((-1 : Int) ≥ 0)) = l.any p
  | [], i => rfl
  | a :: l, i => by
    simp only [foldE, List.any_cons]
    cases p a with
    | true => simp
    | false =>
      simp only [cond_false, Bool.false_or]
      exact foldE_ix l (i + 1)
theorem contains_eq (l : List Int) (hl : l.length ≤ 100000000) (n : Int) : slices_ContainsFunc_128_p0 (l, (some (n, ()), ()), ()) = some (.inl (l.any fun i => outB i n, ())) := by
  have := lim_foldE (S := Unit) (step := slices_IndexFunc_157_p0_l4_step) l (fun (i : Nat) _ (a : Int) => bif outB a n then Sum.inl i else .inr ()) (fun _ i => (l, (some (n, ()), ()), (l.length : Int), (i : Int), ())) (fun i => .inl ((i : Int), ())) (fun _ => .inr (.inl ())) (fun _ _ => True) (fun g i s hi _ => by
    unfold slices_IndexFunc_157_p0_l4_step
    simp only [dlt hi, cond_true, inB_nat hi, ck_true, rdL_nat (.int .i64) l hi, wrap_succ (show i < 9223372036854775807 by omega)]
    rw [beyond_eq]
    simp only [Option.bind_some]
    cases outB l[i] n <;> rfl) (fun _ _ _ _ _ _ => trivial) (fun g s _ => by
    unfold slices_IndexFunc_157_p0_l4_step
    simp only [dge (Nat.lt_irrefl _), cond_false]) (s0 := ()) trivial
  have hx := foldE_ix (p := fun i => outB i n) l 0
  simp only [Int.natCast_zero] at this
  unfold slices_ContainsFunc_128_p0 slices_IndexFunc_157_p0
  simp only
  first
    | rw [this]
    | erw [this]
  rw [← hx]
  cases foldE (S := Unit) (fun (i : Nat) _ (a : Int) => bif outB a n then Sum.inl i else .inr ()) 0 () l <;> rfl

/-! ### Calls of a signature -/
def subS (names : List Int) (l : Slots) : V_api_Type × Int × Unit := bif l.all (fun s => !(outB s.1 names.length)) then ((l.map (named names), ()), 0, ()) else (([], ()), 7, ())
theorem subs_val {names : List Int} {l : Slots} {y : Option (V_api_Type × Int × Unit)} (h : Subs names l y) : y = some (subS names l) := by
  unfold subS
  rcases h with ⟨h1, rfl⟩ | ⟨h1, rfl⟩
  · rw [show (l.all fun s => !(outB s.1 names.length)) = true from by
      rw [List.all_eq_true]
      intro s hs
      rw [← inB_out]
      have := h1 s hs
      unfold good at this
      simp only [inB, Bool.and_eq_true, decide_eq_true_eq]
      exact this]
    rfl
  · rw [show (l.all fun s => !(outB s.1 names.length)) = false from by
      rw [Bool.eq_false_iff]
      intro h
      refine h1 fun s hs => ?_
      have := List.all_eq_true.1 h s hs
      rw [← inB_out] at this
      simp only [inB, Bool.and_eq_true, decide_eq_true_eq] at this
      exact this]
    rfl
theorem subS_len (names : List Int) (l : Slots) : (subS names l).1.1.length ≤ l.length := by
  unfold subS
  cases l.all (fun s => !(outB s.1 names.length)) <;> simp
theorem flS_len (a b : Slots) (k f : Int) : (flS a b k f).1.length ≤ 2 * a.length := by
  unfold flS
  cases shB a b with
  | false => simp
  | true =>
    have := relL_len [] a b k f
    simpa using this
def bndF (names : List Int) (i : Nat) (s : Needs) (b : V_easementref08_Pair) : Needs := s ++ [(rdL (.int .i64) names b.1, rdL (.int .i64) names b.2.1, 4, (i : Int), false, ())]
def argF (names : List Int) (args : List V_api_Type) (i : Nat) (s : Needs) (t : V_api_Type) : (Int × Needs) ⊕ Needs :=
  bif (flS (rdL t_api_Type args (i : Int)).1 (subS names t.1).1.1 5 (IntKind.i64.wrap ((i : Int) * 16))).2.1 != 0 then .inl ((flS (rdL t_api_Type args (i : Int)).1 (subS names t.1).1.1 5 (IntKind.i64.wrap ((i : Int) * 16))).2.1, s)
  else .inr (s ++ (flS (rdL t_api_Type args (i : Int)).1 (subS names t.1).1.1 5 (IntKind.i64.wrap ((i : Int) * 16))).1)
def caS (s : V_api_Sig) (names : List Int) (args : List V_api_Type) (dst : Slots) : Needs × Int × Unit :=
  bif sgC s != 0 then ([], sgC s, ()) else bif ((names.length : Int) != s.1) || ((args.length : Int) != (s.2.2.1.length : Int)) then ([], 2, ()) else
  match foldE (argF names args) 0 (foldI (bndF names) 0 [] s.2.1) s.2.2.1 with
  | .inl e => ([], e.1, ())
  | .inr l => bif (flS (subS names s.2.2.2.1).1.1 dst 6 0).2.1 != 0 then ([], (flS (subS names s.2.2.2.1).1.1 dst 6 0).2.1, ()) else (l ++ (flS (subS names s.2.2.2.1).1.1 dst 6 0).1, 0, ())
theorem step_le {a b i c : Nat} (h9 : a ≤ b + c) (h8 : b ≤ 16 + c * i) : a ≤ 16 + c * (i + 1) := by
  rw [Nat.mul_add, Nat.mul_one]
  omega
structure SigOK (s : V_api_Sig) : Prop where
  bl : s.2.1.length ≤ 16
  al : s.2.2.1.length ≤ 16
  bs : ∀ b ∈ s.2.1, badB s.1 b = false
  as' : ∀ t ∈ s.2.2.1, t.1.length ≤ 16
  rt : s.2.2.2.1.length ≤ 16
theorem tC_len {l : Slots} {r : Int} (h : tC l r = 0) : l.length ≤ 16 := by
  unfold tC at h
  cases hd : decide ((l.length : Int) > 16) with
  | true => rw [hd] at h; cases h
  | false =>
    have := of_decide_eq_false hd
    omega
theorem tysC_all {r : Int} : ∀ {l : List V_api_Type}, tysC r l = 0 → ∀ t ∈ l, tC t.1 r = 0
  | [], _, _, h => by cases h
  | u :: l, h, t, ht => by
    simp only [tysC] at h
    cases hu : tC u.1 r != 0 with
    | true =>
      rw [hu] at h
      simp only [cond_true] at h
      rw [h] at hu
      cases hu
    | false =>
      rw [hu] at h
      have h0 : tC u.1 r = 0 := by simpa using hu
      rcases List.mem_cons.1 ht with rfl | ht
      · exact h0
      · exact tysC_all h t ht
theorem sigOK_of {s : V_api_Sig} (h : sgC s = 0) : SigOK s := by
  unfold sgC at h
  cases h1 : decide (s.1 < 0) with
  | true => rw [h1] at h; cases h
  | false =>
    rw [h1] at h
    simp only [cond_false] at h
    cases h2 : decide (s.1 > 16) || decide ((s.2.1.length : Int) > 16) || decide ((s.2.2.1.length : Int) > 16) with
    | true => rw [h2] at h; cases h
    | false =>
      rw [h2] at h
      simp only [cond_false] at h
      simp only [Bool.or_eq_false_iff, decide_eq_false_iff_not] at h2
      obtain ⟨⟨g1, g2⟩, g3⟩ := h2
      cases h3 : s.2.1.any (badB s.1) with
      | true => rw [h3] at h; cases h
      | false =>
        rw [h3] at h
        simp only [cond_false] at h
        have ht := tysC_all h
        refine ⟨by omega, by omega, fun b hb => ?_, fun t ht' => tC_len (ht t (List.mem_append_left _ ht')), tC_len (ht (s.2.2.2.1, ()) (by simp))⟩
        have := List.any_eq_false.1 h3 b hb
        simpa using this
theorem bndF_len (names : List Int) : ∀ (l : List V_easementref08_Pair) (i : Nat) (s : Needs), (foldI (bndF names) i s l).length = s.length + l.length
  | [], i, s => by simp [foldI]
  | b :: l, i, s => by
    simp only [foldI, List.length_cons]
    rw [bndF_len names l]
    simp [bndF]
    omega
theorem argF_len {names : List Int} {args : List V_api_Type} (hs : TySm args) {i : Nat} {s s' : Needs} {t : V_api_Type} (h : argF names args i s t = .inr s') : s'.length ≤ s.length + 2199998 := by
  unfold argF at h
  have h1 := flS_len (rdL t_api_Type args (i : Int)).1 (subS names t.1).1.1 5 (IntKind.i64.wrap ((i : Int) * 16))
  have h2 := tyA_len hs (i : Int)
  unfold tyA at h2
  cases hb : (flS (rdL t_api_Type args (i : Int)).1 (subS names t.1).1.1 5 (IntKind.i64.wrap ((i : Int) * 16))).2.1 != 0 with
  | true => rw [hb] at h; cases h
  | false =>
    rw [hb] at h
    simp only [cond_false, Sum.inr.injEq] at h
    rw [← h, List.length_append]
    omega
theorem foldE_len {names : List Int} {args : List V_api_Type} (hs : TySm args) : ∀ (l : List V_api_Type) (i : Nat) (s s' : Needs), foldE (argF names args) i s l = .inr s' → s'.length ≤ s.length + 2199998 * l.length
  | [], i, s, s', h => by
    simp only [foldE, Sum.inr.injEq] at h
    rw [← h]
    simp
  | t :: l, i, s, s', h => by
    simp only [foldE] at h
    cases hf : argF names args i s t with
    | inl e => rw [hf] at h; cases h
    | inr s1 =>
      rw [hf] at h
      have h1 := argF_len hs hf
      have h2 := foldE_len hs l (i + 1) s1 s' h
      simp only [List.length_cons]
      omega
section
variable {s : V_api_Sig} {names : List Int} {args : List V_api_Type} {dst : Slots} (hn : names.length ≤ 1100000) (ha : TySm args) (hal : args.length ≤ 1100000) (hd : dst.length ≤ 1099999)
include hn ha hal hd
theorem call_eq : sig_Call (s, names, args, (dst, ()), ()) = some (caS s names args dst) := by
  unfold sig_Call caS
  obtain ⟨p, bs, ags, ret, _⟩ := s
  simp only
  rw [sig_Check_eq (p, bs, ags, ret, ())]
  simp only [Option.bind_some, cond_or]
  cases hc : sgC (p, bs, ags, ret, ()) != 0 with
  | true => rfl
  | false =>
    have hok := sigOK_of (s := (p, bs, ags, ret, ())) (by simpa using hc)
    simp only [cond_false]
    cases hm : ((names.length : Int) != p) || ((args.length : Int) != (ags.length : Int)) with
    | true => rfl
    | false =>
      simp only [cond_false]
      simp only [Bool.or_eq_false_iff] at hm
      have hp : (names.length : Int) = p := by simpa using hm.1
      have hq : args.length = ags.length := by
        have : (args.length : Int) = (ags.length : Int) := by simpa using hm.2
        omega
      have h1 := hok.bl
      have h2 := hok.al
      have h3 := hok.rt
      simp only at h1 h2 h3
      have l1 := lim_foldI (step := sig_Call_l16_step) bs (bndF names) (fun s i => (names, s, bs, (bs.length : Int), (i : Int), ())) (fun s => .inl (s, ())) (fun i s => s.length = i) (fun g i s hi hinv => by
        have hb := hok.bs bs[i] (List.getElem_mem hi)
        unfold badB at hb
        simp only [Bool.or_eq_false_iff, decide_eq_false_iff_not] at hb
        obtain ⟨⟨⟨b1, b2⟩, b3⟩, b4⟩ := hb
        unfold sig_Call_l16_step bndF
        simp only [dlt hi, cond_true, inB_nat hi, ck_true, rdL_nat t_easementref08_Pair bs hi, wrap_succ (show i < 9223372036854775807 by omega)]
        rw [show inB bs[i].1 names.length = true from by simp [inB]; omega, show inB bs[i].2.1 names.length = true from by simp [inB]; omega, roomB_ok (by simp; omega)]
        rfl) (fun i s hi hinv => by unfold bndF; simp [hinv]) (fun g s _ => by
        unfold sig_Call_l16_step
        simp only [dge (Nat.lt_irrefl _), cond_false]) (s0 := []) rfl
      simp only [Int.natCast_zero] at l1
      first
        | rw [l1]
        | erw [l1]
      simp only [Option.bind_some, out1_inl]
      have hl0 := bndF_len names bs 0 []
      simp only [List.length_nil, Nat.zero_add] at hl0
      have l2 := lim_foldE (step := sig_Call_l26_step) ags (argF names args) (fun s i => (names, args, s, ags, (ags.length : Int), (i : Int), ())) (fun e => .inl (([] : Needs), e.1, e.2, ())) (fun s => .inr (.inl (s, ()))) (fun i s => s.length ≤ 16 + 2199998 * i) (fun g i s hi hinv => by
        have hai : i < args.length := by omega
        have hsl := hok.as' ags[i] (List.getElem_mem hi)
        have hx := tyA_len ha (i : Int)
        unfold tyA at hx
        have hfl := flS_len (rdL t_api_Type args (i : Int)).1 (subS names ags[i].1).1.1 5 (IntKind.i64.wrap ((i : Int) * 16))
        unfold sig_Call_l26_step
        simp only [dlt hi, cond_true, inB_nat hi, inB_nat hai, ck_true, rdL_nat t_api_Type ags hi, wrap_succ (show i < 9223372036854775807 by omega)]
        rw [subs_val (row_Subst_eq ags[i].1 (by omega) names)]
        simp only [Option.bind_some]
        rw [Flow_eqT _ _ (by omega)]
        simp only [Option.bind_some]
        unfold argF
        cases hb : (flS (rdL t_api_Type args (i : Int)).1 (subS names ags[i].1).1.1 5 (IntKind.i64.wrap ((i : Int) * 16))).2.1 != 0 with
        | true => rfl
        | false =>
          simp only [cond_false]
          rw [roomB_ok (by rw [List.length_append]; omega)]
          rfl) (fun i s hi hinv s' hs' => by
        exact step_le (argF_len ha hs') hinv) (fun g s _ => by
        unfold sig_Call_l26_step
        simp only [dge (Nat.lt_irrefl _), cond_false]) (s0 := foldI (bndF names) 0 [] bs) (by omega)
      simp only [Int.natCast_zero] at l2
      first
        | rw [l2]
        | erw [l2]
      cases hf : foldE (argF names args) 0 (foldI (bndF names) 0 [] bs) ags with
      | inl e => rfl
      | inr l =>
        have hll := foldE_len ha ags 0 _ _ hf
        have hfl := flS_len (subS names ret).1.1 dst 6 0
        have hsl := subS_len names ret
        simp only [Option.bind_some, out2_inr]
        rw [subs_val (row_Subst_eq ret (by omega) names)]
        simp only [Option.bind_some]
        rw [Flow_eqT _ _ (by omega)]
        simp only [Option.bind_some]
        cases hb : (flS (subS names ret).1.1 dst 6 0).2.1 != 0 with
        | true => rfl
        | false =>
          simp only [cond_false]
          rw [roomB_ok (by rw [List.length_append]; omega)]
          rfl
theorem rcall_eq : ref17_Call (s, names, args, (dst, ()), ()) = some (caS s names args dst) := by
  unfold ref17_Call caS
  obtain ⟨p, bs, ags, ret, _⟩ := s
  simp only
  rw [ref17_Check_eq (p, bs, ags, ret, ())]
  simp only [Option.bind_some, cond_or]
  cases hc : sgC (p, bs, ags, ret, ()) != 0 with
  | true => rfl
  | false =>
    have hok := sigOK_of (s := (p, bs, ags, ret, ())) (by simpa using hc)
    simp only [cond_false]
    cases hm : ((names.length : Int) != p) || ((args.length : Int) != (ags.length : Int)) with
    | true => rfl
    | false =>
      simp only [cond_false]
      simp only [Bool.or_eq_false_iff] at hm
      have hp : (names.length : Int) = p := by simpa using hm.1
      have hq : args.length = ags.length := by
        have : (args.length : Int) = (ags.length : Int) := by simpa using hm.2
        omega
      have h1 := hok.bl
      have h2 := hok.al
      have h3 := hok.rt
      simp only at h1 h2 h3
      have l1 := lim_foldI (step := ref17_Call_l16_step) bs (bndF names) (fun s i => ((p, bs, ags, ret, ()), names, s, (i : Int), ())) (fun s => .inl (s, (p, bs, ags, ret, ()), ())) (fun i s => s.length = i) (fun g i s hi hinv => by
        have hb := hok.bs bs[i] (List.getElem_mem hi)
        unfold badB at hb
        simp only [Bool.or_eq_false_iff, decide_eq_false_iff_not] at hb
        obtain ⟨⟨⟨b1, b2⟩, b3⟩, b4⟩ := hb
        unfold ref17_Call_l16_step bndF
        simp only [dlt hi, cond_true, inB_nat hi, ck_true, rdL_nat t_easementref08_Pair bs hi, wrap_succ (show i < 9223372036854775807 by omega)]
        rw [show inB bs[i].1 names.length = true from by simp [inB]; omega, show inB bs[i].2.1 names.length = true from by simp [inB]; omega, roomB_ok (by simp; omega)]
        rfl) (fun i s hi hinv => by unfold bndF; simp [hinv]) (fun g s _ => by
        unfold ref17_Call_l16_step
        simp only [dge (Nat.lt_irrefl _), cond_false]) (s0 := []) rfl
      simp only [Int.natCast_zero] at l1
      first
        | rw [l1]
        | erw [l1]
      simp only [Option.bind_some, out1_inl]
      have hl0 := bndF_len names bs 0 []
      simp only [List.length_nil, Nat.zero_add] at hl0
      have l2 := lim_foldE (step := ref17_Call_l24_step) ags (argF names args) (fun s i => ((p, bs, ags, ret, ()), names, args, s, (i : Int), ())) (fun e => .inl (([] : Needs), e.1, (p, bs, ags, ret, ()), e.2, ())) (fun s => .inr (.inl (s, (p, bs, ags, ret, ()), ()))) (fun i s => s.length ≤ 16 + 2199998 * i) (fun g i s hi hinv => by
        have hai : i < args.length := by omega
        have hsl := hok.as' ags[i] (List.getElem_mem hi)
        have hx := tyA_len ha (i : Int)
        unfold tyA at hx
        have hfl := flS_len (rdL t_api_Type args (i : Int)).1 (subS names ags[i].1).1.1 5 (IntKind.i64.wrap ((i : Int) * 16))
        unfold ref17_Call_l24_step
        simp only [dlt hi, cond_true, inB_nat hi, inB_nat hai, ck_true, rdL_nat t_api_Type ags hi, wrap_succ (show i < 9223372036854775807 by omega), Int.mul_comm (16 : Int)]
        rw [subs_val (ref15_Subst_eq ags[i].1 (by omega) names)]
        simp only [Option.bind_some]
        rw [rFlow_eqT _ _ (by omega)]
        simp only [Option.bind_some]
        unfold argF
        cases hb : (flS (rdL t_api_Type args (i : Int)).1 (subS names ags[i].1).1.1 5 (IntKind.i64.wrap ((i : Int) * 16))).2.1 != 0 with
        | true => rfl
        | false =>
          simp only [cond_false]
          rw [roomB_ok (by rw [List.length_append]; omega)]
          rfl) (fun i s hi hinv s' hs' => by
        exact step_le (argF_len ha hs') hinv) (fun g s _ => by
        unfold ref17_Call_l24_step
        simp only [dge (Nat.lt_irrefl _), cond_false]) (s0 := foldI (bndF names) 0 [] bs) (by omega)
      simp only [Int.natCast_zero] at l2
      first
        | rw [l2]
        | erw [l2]
      cases hf : foldE (argF names args) 0 (foldI (bndF names) 0 [] bs) ags with
      | inl e => rfl
      | inr l =>
        have hll := foldE_len ha ags 0 _ _ hf
        have hfl := flS_len (subS names ret).1.1 dst 6 0
        have hsl := subS_len names ret
        simp only [Option.bind_some, out2_inr]
        rw [subs_val (ref15_Subst_eq ret (by omega) names)]
        simp only [Option.bind_some]
        rw [rFlow_eqT _ _ (by omega)]
        simp only [Option.bind_some]
        cases hb : (flS (subS names ret).1.1 dst 6 0).2.1 != 0 with
        | true => rfl
        | false =>
          simp only [cond_false]
          rw [roomB_ok (by rw [List.length_append]; omega)]
          rfl
end

/-! ### Terminators -/
def argG (ls : List V_api_Type) (_ : Nat) (s : List V_api_Type) (i : Int) : List V_api_Type := s ++ [(tyA ls i, ())]
def argsT (ls : List V_api_Type) (l : List Int) : List V_api_Type := foldI (argG ls) 0 [] l
theorem argG_ok {ls : List V_api_Type} (hs : TySm ls) : ∀ (l : List Int) (i : Nat) (s : List V_api_Type), TySm s → TySm (foldI (argG ls) i s l) ∧ (foldI (argG ls) i s l).length = s.length + l.length
  | [], i, s, h => ⟨h, by simp [foldI]⟩
  | x :: l, i, s, h => by
    simp only [foldI]
    have h1 : TySm (argG ls i s x) := fun t ht => by
      rcases List.mem_append.1 ht with ht | ht
      · exact h t ht
      · rw [List.mem_singleton.1 ht]; exact tyA_len hs x
    obtain ⟨k1, k2⟩ := argG_ok hs l (i + 1) _ h1
    refine ⟨k1, ?_⟩
    rw [k2]
    simp [argG]
    omega
def teN (t : V_api_Term) (a : V_term_Around) : Needs × Int × Unit :=
  bif t.1 == 3 then flS (tyA a.2.2.1 0) a.2.2.2.1 7 0 else bif t.1 == 4 then caS (rdL t_api_Sig a.2.2.2.2.1 t.2.1) t.2.2.2.2.2.1 (argsT a.2.2.1 t.2.2.2.2.1) (tyA a.2.2.1 t.2.2.1) else ([], 0, ())
def teO (t : V_api_Term) (a : V_term_Around) : Bool := (t.2.2.2.1.any fun i => outB i a.1) || (t.2.2.2.2.1.any fun i => outB i a.2.2.1.length) || (t.2.2.2.2.2.1.any fun i => outB i a.2.1)
def teS (t : V_api_Term) (a : V_term_Around) : Needs × Int × Unit :=
  bif teF t != 0 then ([], teF t, ()) else bif teO t a then ([], 7, ()) else
  bif (t.1 == 4) && (outB t.2.2.1 a.2.2.1.length || outB t.2.1 a.2.2.2.2.1.length) then ([], 7, ()) else
  bif (t.1 == 3) && ((a.2.2.1.length : Int) == 0) then ([], 14, ()) else teN t a
theorem teF_many {t : V_api_Term} (h : teF t = 0) : t.2.2.2.1.length ≤ 16 ∧ t.2.2.2.2.1.length ≤ 16 ∧ t.2.2.2.2.2.1.length ≤ 16 := by
  unfold teF at h
  cases h1 : decide (t.1 < 1) || decide (t.1 > 4) with
  | true => rw [h1] at h; cases h
  | false =>
    rw [h1] at h
    simp only [cond_false] at h
    cases h2 : ((((t.1 == 1) || (t.1 == 4)) && ((t.2.2.2.1.length : Int) != 1)) || ((t.1 == 2) && ((t.2.2.2.1.length : Int) == 0)) || ((t.1 == 3) && ((t.2.2.2.1.length : Int) != 0))) with
    | true => rw [h2] at h; cases h
    | false =>
      rw [h2] at h
      simp only [cond_false] at h
      cases h3 : ((t.1 != 4) && ((t.2.1 != 0) || (t.2.2.1 != 0) || ((t.2.2.2.2.2.1.length : Int) != 0))) with
      | true => rw [h3] at h; cases h
      | false =>
        rw [h3] at h
        simp only [cond_false] at h
        cases h4 : (((t.1 == 1) || (t.1 == 3)) && ((t.2.2.2.2.1.length : Int) != 0)) with
        | true => rw [h4] at h; cases h
        | false =>
          rw [h4] at h
          simp only [cond_false] at h
          cases h5 : manyT t with
          | true => rw [h5] at h; cases h
          | false =>
            unfold manyT at h5
            simp only [Bool.or_eq_false_iff, decide_eq_false_iff_not] at h5
            omega
section
variable {t : V_api_Term} {a : V_term_Around} (ht : t.2.2.2.2.1.length ≤ 16 ∧ t.2.2.2.2.2.1.length ≤ 16) (hs : TySm a.2.2.1) (hr : a.2.2.2.1.length ≤ 1099999) (h3 : t.1 = 3 → inB (0 : Int) a.2.2.1.length = true) (h4 : t.1 = 4 → (t.2.2.2.2.1.any fun i => outB i a.2.2.1.length) = false ∧ inB t.2.1 a.2.2.2.2.1.length = true ∧ inB t.2.2.1 a.2.2.1.length = true)
include ht hs hr h3 h4
theorem tneeds_eq : term_needs (t, a, ()) = some (teN t a) := by
  obtain ⟨k, sg, d, to, ar, pa, ⟨⟩⟩ := t
  obtain ⟨nb, nr, ls, ret, sgs, ⟨⟩⟩ := a
  simp only at ht hs hr h3 h4
  unfold term_needs teN
  simp only
  by_cases k3 : k = 3
  · have hin := h3 k3
    subst k3
    simp only [beq_self_eq_true, cond_true, hin, ck_true]
    rw [show rdL t_api_Type ls (0 : Int) = (tyA ls 0, ()) from rfl, Flow_eq _ _ (by have := tyA_len hs 0; omega)]
    rfl
  · rw [show (k == (3 : Int)) = false from beq_eq_false_iff_ne.2 k3]
    by_cases k4 : k = 4
    · obtain ⟨g1, g2, g3⟩ := h4 k4
      subst k4
      have l1 := lim_foldI (step := term_needs_l14_step) ar (argG ls) (fun s i => ((nb, nr, ls, ret, sgs, ()), s, ar, (ar.length : Int), (i : Int), ())) (fun s => .inl (s, (nb, nr, ls, ret, sgs, ()), ())) (fun i s => s.length = i) (fun g i s hi hinv => by
        have hb : inB ar[i] ls.length = true := by
          rw [inB_out]
          have := List.any_eq_false.1 g1 ar[i] (List.getElem_mem hi)
          simp only [Bool.not_eq_true] at this
          rw [this]
          rfl
        unfold term_needs_l14_step argG tyA
        simp only [dlt hi, cond_true, inB_nat hi, ck_true, rdL_nat (.int .i64) ar hi, hb, wrap_succ (show i < 9223372036854775807 by omega)]
        rw [roomB_ok (by simp; omega)]
        rfl) (fun i s hi hinv => by unfold argG; simp [hinv]) (fun g s _ => by
        unfold term_needs_l14_step
        simp only [dge (Nat.lt_irrefl _), cond_false]) (s0 := []) rfl
      simp only [Int.natCast_zero] at l1
      simp only [beq_self_eq_true, cond_true, cond_false]
      first
        | rw [l1]
        | erw [l1]
      simp only [Option.bind_some, out1_inl, g2, g3, ck_true]
      obtain ⟨q1, q2⟩ := argG_ok hs ar 0 [] (fun _ h => by cases h)
      simp only [List.length_nil, Nat.zero_add] at q2
      rw [show rdL t_api_Type ls d = (tyA ls d, ()) from rfl]
      have := call_eq (s := rdL t_api_Sig sgs sg) (names := pa) (args := foldI (argG ls) 0 [] ar) (dst := tyA ls d) (by omega) q1 (by omega) (tyA_len hs d)
      rw [this]
      rfl
    · rw [show (k == (4 : Int)) = false from beq_eq_false_iff_ne.2 k4]
      rfl
end
theorem beyond0 (n : Int) : term_beyond (n, ()) = some (some (n, ()), ()) := rfl
theorem tCheck_eq (t : V_api_Term) (a : V_term_Around) (hs : TySm a.2.2.1) (hr : a.2.2.2.1.length ≤ 1099999) : term_Check (t, a, ()) = some ((teS t a).2.1, ()) := by
  have hN := tneeds_eq (t := t) (a := a)
  obtain ⟨k, sg, d, to, ar, pa, ⟨⟩⟩ := t
  obtain ⟨nb, nr, ls, ret, sgs, ⟨⟩⟩ := a
  simp only at hs hr
  unfold term_Check teS
  simp only
  rw [tForm_eq (k, sg, d, to, ar, pa, ())]
  simp only [Option.bind_some]
  cases hF : teF (k, sg, d, to, ar, pa, ()) != 0 with
  | true => rfl
  | false =>
    obtain ⟨m1, m2, m3⟩ := teF_many (t := (k, sg, d, to, ar, pa, ())) (by simpa using hF)
    simp only at m1 m2 m3
    simp only [cond_false, beyond0, Option.bind_some]
    rw [contains_eq to (by omega) nb]
    simp only [Option.bind_some, out1_inl]
    have hj : term_Check_j37_v ((k, sg, d, to, ar, pa, ()), (nb, nr, ls, ret, sgs, ()), (some ((ls.length : Int), ()), ()), to.any (fun i => outB i nb), ()) = some (.inl (teO (k, sg, d, to, ar, pa, ()) (nb, nr, ls, ret, sgs, ()), (k, sg, d, to, ar, pa, ()), (nb, nr, ls, ret, sgs, ()), ())) := by
      unfold term_Check_j37_v term_Check_j37x_v teO
      simp only
      cases h1 : to.any fun i => outB i nb with
      | true => rfl
      | false =>
        simp only [cond_false]
        rw [contains_eq ar (by omega) (ls.length : Int)]
        simp only [Option.bind_some, out1_inl, Bool.false_or]
        cases h2 : ar.any fun i => outB i (ls.length : Int) with
        | true => rfl
        | false =>
          simp only [cond_false, beyond0, Option.bind_some]
          rw [contains_eq pa (by omega) nr]
          rfl
    rw [hj]
    simp only [Option.bind_some, out1_inl]
    cases hO : teO (k, sg, d, to, ar, pa, ()) (nb, nr, ls, ret, sgs, ()) with
    | true => rfl
    | false =>
      have hO' := hO
      unfold teO at hO'
      simp only [Bool.or_eq_false_iff] at hO'
      simp only [cond_false]
      have hin0 : ((ls.length : Int) == (0 : Int)) = false → inB (0 : Int) ls.length = true := fun h => by
        have : (ls.length : Int) ≠ 0 := beq_eq_false_iff_ne.1 h
        simp [inB]
        omega
      by_cases k4 : k = 4
      · subst k4
        simp only [beq_self_eq_true, cond_true, Bool.true_and]
        rw [beyond_eq]
        simp only [Option.bind_some]
        cases c1 : outB d (ls.length : Int) with
        | true => rfl
        | false =>
          simp only [Bool.not_false, cond_true, Bool.false_or]
          rw [beyond_eq]
          simp only [Option.bind_some]
          cases c2 : outB sg (sgs.length : Int) with
          | true => rfl
          | false =>
            simp only [cond_false]
            rw [show ((4 : Int) == (3 : Int)) = false from rfl]
            simp only [cond_false, Bool.false_and]
            rw [hN ⟨m2, m3⟩ hs hr (fun e => by cases e) (fun _ => ⟨hO'.1.2, by rw [inB_out, c2]; rfl, by rw [inB_out, c1]; rfl⟩)]
            rfl
      · rw [show (k == (4 : Int)) = false from beq_eq_false_iff_ne.2 k4]
        simp only [cond_false, Bool.false_and, cond_and]
        cases c3 : (k == (3 : Int)) && ((ls.length : Int) == (0 : Int)) with
        | true => rfl
        | false =>
          simp only [cond_false]
          rw [hN ⟨m2, m3⟩ hs hr (fun e => by
            simp only at e
            subst e
            exact hin0 (by simpa using c3)) (fun e => absurd e k4)]
          rfl

theorem rargs_loop {k sg d : Int} {to ar pa : List Int} {nb nr : Int} {ls : List V_api_Type} {ret : Slots} {sgs : List V_api_Sig} (ha : ar.length ≤ 16) (g1 : (ar.any fun i => outB i ls.length) = false) :
    lim ref19_Needs_l30_step ((k, sg, d, to, ar, pa, ()), (nb, nr, ls, ret, sgs, ()), ([] : List V_api_Type), (0 : Int), ()) = some (.inl (argsT ls ar, (k, sg, d, to, ar, pa, ()), (nb, nr, ls, ret, sgs, ()), ())) := by
  have l1 := lim_foldI (step := ref19_Needs_l30_step) ar (argG ls) (fun s i => ((k, sg, d, to, ar, pa, ()), (nb, nr, ls, ret, sgs, ()), s, (i : Int), ())) (fun s => .inl (s, (k, sg, d, to, ar, pa, ()), (nb, nr, ls, ret, sgs, ()), ())) (fun i s => s.length = i) (fun g i s hi hinv => by
    have hb : inB ar[i] ls.length = true := by
      rw [inB_out]
      have := List.any_eq_false.1 g1 ar[i] (List.getElem_mem hi)
      simp only [Bool.not_eq_true] at this
      rw [this]
      rfl
    unfold ref19_Needs_l30_step argG tyA
    simp only [dlt hi, cond_true, inB_nat hi, ck_true, rdL_nat (.int .i64) ar hi, hb, wrap_succ (show i < 9223372036854775807 by omega)]
    rw [roomB_ok (by simp; omega)]
    rfl) (fun i s hi hinv => by unfold argG; simp [hinv]) (fun g s _ => by
    unfold ref19_Needs_l30_step
    simp only [dge (Nat.lt_irrefl _), cond_false]) (s0 := []) rfl
  exact l1
theorem within1 (i n : Int) : ref19_within ([i], n, ()) = some (!(outB i n), ()) := by
  rw [within_eq [i] (by simp) n]
  simp
theorem rtNeeds_eq (t : V_api_Term) (a : V_term_Around) (hs : TySm a.2.2.1) (hr : a.2.2.2.1.length ≤ 1099999) : ref19_Needs (t, a, ()) = some (teS t a) := by
  obtain ⟨k, sg, d, to, ar, pa, ⟨⟩⟩ := t
  obtain ⟨nb, nr, ls, ret, sgs, ⟨⟩⟩ := a
  simp only at hs hr
  unfold ref19_Needs teS
  simp only
  rw [rTForm_eq (k, sg, d, to, ar, pa, ())]
  simp only [Option.bind_some]
  cases hF : teF (k, sg, d, to, ar, pa, ()) != 0 with
  | true => rfl
  | false =>
    obtain ⟨m1, m2, m3⟩ := teF_many (t := (k, sg, d, to, ar, pa, ())) (by simpa using hF)
    simp only at m1 m2 m3
    simp only [cond_false]
    rw [within_eq to (by omega) nb]
    simp only [Option.bind_some, Bool.not_not]
    cases h1 : to.any fun i => outB i nb with
    | true =>
      rw [show teO (k, sg, d, to, ar, pa, ()) (nb, nr, ls, ret, sgs, ()) = true from by unfold teO; simp only [h1, Bool.true_or]]
      rfl
    | false =>
      simp only [Bool.not_false, cond_true]
      rw [within_eq ar (by omega) (ls.length : Int)]
      simp only [Option.bind_some, Bool.not_not]
      cases h2 : ar.any fun i => outB i (ls.length : Int) with
      | true =>
        rw [show teO (k, sg, d, to, ar, pa, ()) (nb, nr, ls, ret, sgs, ()) = true from by unfold teO; simp only [h2, Bool.true_or, Bool.or_true]]
        rfl
      | false =>
        simp only [Bool.not_false, cond_true]
        rw [within_eq pa (by omega) nr]
        simp only [Option.bind_some, Bool.not_not]
        cases h3 : pa.any fun i => outB i nr with
        | true =>
          rw [show teO (k, sg, d, to, ar, pa, ()) (nb, nr, ls, ret, sgs, ()) = true from by unfold teO; simp only [h3, Bool.or_true]]
          rfl
        | false =>
          rw [show teO (k, sg, d, to, ar, pa, ()) (nb, nr, ls, ret, sgs, ()) = false from by unfold teO; simp only [h1, h2, h3, Bool.or_false]]
          simp only [cond_false, cond_and]
          have hin0 : ((ls.length : Int) == (0 : Int)) = false → inB (0 : Int) ls.length = true := fun h => by
            have : (ls.length : Int) ≠ 0 := beq_eq_false_iff_ne.1 h
            simp [inB]
            omega
          by_cases k4 : k = 4
          · subst k4
            simp only [beq_self_eq_true, cond_true, Bool.true_and]
            rw [within1]
            simp only [Option.bind_some, Bool.not_not]
            cases c1 : outB d (ls.length : Int) with
            | true => rfl
            | false =>
              simp only [Bool.not_false, cond_true, Bool.false_or]
              rw [within1]
              simp only [Option.bind_some, Bool.not_not]
              cases c2 : outB sg (sgs.length : Int) with
              | true => rfl
              | false =>
                simp only [cond_false]
                rw [show ((4 : Int) == (3 : Int)) = false from rfl]
                simp only [cond_false, Bool.false_and]
                rw [rargs_loop m2 h2]
                simp only [Option.bind_some, out1_inl]
                rw [show inB sg sgs.length = true from by rw [inB_out, c2]; rfl, show inB d ls.length = true from by rw [inB_out, c1]; rfl]
                simp only [ck_true]
                obtain ⟨q1, q2⟩ := argG_ok hs ar 0 [] (fun _ h => by cases h)
                simp only [List.length_nil, Nat.zero_add] at q2
                have := rcall_eq (s := rdL t_api_Sig sgs sg) (names := pa) (args := argsT ls ar) (dst := tyA ls d) (by omega) q1 (by unfold argsT; omega) (tyA_len hs d)
                rw [show rdL t_api_Type ls d = (tyA ls d, ()) from rfl, this]
                rfl
          · rw [show (k == (4 : Int)) = false from beq_eq_false_iff_ne.2 k4]
            simp only [cond_false, Bool.false_and]
            cases c3 : (k == (3 : Int)) && ((ls.length : Int) == (0 : Int)) with
            | true => rfl
            | false =>
              simp only [cond_false]
              unfold teN
              simp only
              by_cases k3 : k = 3
              · subst k3
                simp only [beq_self_eq_true, cond_true]
                rw [hin0 (by simpa using c3), ck_true, show rdL t_api_Type ls (0 : Int) = (tyA ls 0, ()) from rfl, rFlow_eq _ _ (by have := tyA_len hs 0; omega)]
                rfl
              · rw [show (k == (3 : Int)) = false from beq_eq_false_iff_ne.2 k3, show (k == (4 : Int)) = false from beq_eq_false_iff_ne.2 k4]
                rfl
end Go.XD


/- Plain law of the package valid against the document's answer. -/
namespace Go.XD

abbrev Flt := V_valid_Fault
abbrev zF : Flt := (0, 0, 0, 0, ())
/-- What was wrong first. -/
def wr (f g : Flt) : Flt := bif (f.1 == 0) && (g.1 != 0) then g else f
def Nrm (f : Flt) : Prop := f.1 = 0 → f = zF
theorem wr_keep {f : Flt} (h : (f.1 != 0) = true) (g : Flt) : wr f g = f := by
  unfold wr
  have : (f.1 == 0) = false := by simpa [bne] using h
  rw [this]
  rfl
theorem wr_zero (g : Flt) : wr zF g = bif g.1 != 0 then g else zF := rfl
theorem nrm_z : Nrm zF := fun _ => rfl
theorem nrm_of {f : Flt} (h : (f.1 != 0) = true) : Nrm f := fun e => by rw [e] at h; cases h
theorem nrm_cases {f : Flt} (h : Nrm f) : (f.1 != 0) = true ∨ f = zF := by
  cases hf : f.1 != 0 with
  | true => exact .inl rfl
  | false => exact .inr (h (by simpa using hf))
/-- The first of a list's. -/
def ffi {α : Type} (g : Nat → α → Flt) : Nat → List α → Flt
  | _, [] => zF
  | i, x :: l => bif (g i x).1 != 0 then g i x else ffi g (i + 1) l
theorem ffi_nrm {α : Type} (g : Nat → α → Flt) : ∀ (l : List α) (i : Nat), Nrm (ffi g i l)
  | [], _ => nrm_z
  | x :: l, i => by
    unfold ffi
    cases h : (g i x).1 != 0 with
    | true => exact nrm_of h
    | false => exact ffi_nrm g l (i + 1)
theorem wr_fold {α : Type} (g : Nat → α → Flt) : ∀ (l : List α) (i : Nat) (f : Flt), Nrm f → foldI (fun i s x => wr s (g i x)) i f l = bif f.1 != 0 then f else ffi g i l
  | [], i, f, h => by
    rcases nrm_cases h with h' | rfl
    · rw [h']; rfl
    · rfl
  | x :: l, i, f, h => by
    simp only [foldI]
    rcases nrm_cases h with h' | rfl
    · rw [wr_keep h', wr_fold g l (i + 1) f h, h']
      rfl
    · rw [wr_zero]
      unfold ffi
      cases hg : (g i x).1 != 0 with
      | true =>
        simp only [cond_true]
        rw [wr_fold g l (i + 1) _ (nrm_of hg), hg]
        rfl
      | false =>
        simp only [cond_false]
        rw [wr_fold g l (i + 1) zF nrm_z]
theorem fe_fold {α : Type} (g : Nat → α → Flt) : ∀ (l : List α) (i : Nat), foldE (S := Unit) (fun i _ x => bif (g i x).1 != 0 then Sum.inl (g i x) else .inr ()) i () l = bif (ffi g i l).1 != 0 then .inl (ffi g i l) else .inr ()
  | [], i => rfl
  | x :: l, i => by
    simp only [foldE, ffi]
    cases hg : (g i x).1 != 0 with
    | true => simp [hg]
    | false =>
      simp only [cond_false]
      exact fe_fold g l (i + 1)

/-- A checker: a body, and what is wrong with it. -/
abbrev Ckr := Int × Int × List V_easementref08_Pair × List V_api_Type × List V_api_Slot × List V_api_Sig × List V_api_Block × Unit × Int × Int × Int × Int × Unit
def mkC (b : V_api_Body) (f : Flt) : Ckr := (b.1, b.2.1, b.2.2.1, b.2.2.2.1, b.2.2.2.2.1, b.2.2.2.2.2.1, b.2.2.2.2.2.2.1, (), f.1, f.2.1, f.2.2.1, f.2.2.2.1, ())
theorem wrong_eq (b : V_api_Body) (f : Flt) (e p i k : Int) : valid_checker_wrong_p0 (mkC b f, e, p, i, k, ()) = some (.inl (mkC b (wr f (e, p, i, k, ())), ())) := by
  unfold valid_checker_wrong_p0 valid_checker_wrong_p0_j49_v tick_Counter_Add_p0 wr mkC
  simp only [Option.bind_some, out1_inl, cond_and]
  cases (f.1 == 0) && (e != 0) <;> rfl
def mny (n : Int) : Int := bif decide (n > 65536) then 6 else 0
theorem many_eq (n : Int) : valid_many (n, ()) = some (mny n, ()) := by
  unfold valid_many mny
  simp only
  cases decide (n > 65536) <;> rfl
def sme (n : Int) : Int := bif n == 0 then 14 else mny n
theorem some_eq (n : Int) : valid_some (n, ()) = some (sme n, ()) := by
  unfold valid_some sme
  simp only [many_eq]
  cases (n == 0) <;> rfl

/-! ### head -/
def bndG (u : Int) (i : Nat) (x : V_easementref08_Pair) : Flt := (bif badB u x then 7 else 0, 1, (i : Int), 0, ())
def hF (b : V_api_Body) : Flt := bif decide (b.1 < 1) || decide (b.2.1 < b.1) then (7, 0, 0, 0, ()) else bif decide (b.2.1 > 65536) then (6, 0, 0, 0, ()) else bif decide ((b.2.2.1.length : Int) > 65536) then (6, 1, 0, 0, ()) else ffi (bndG b.1) 0 b.2.2.1
theorem hF_nrm (b : V_api_Body) : Nrm (hF b) := by
  unfold hF
  cases decide (b.1 < 1) || decide (b.2.1 < b.1) with
  | true => exact nrm_of rfl
  | false =>
    cases decide (b.2.1 > 65536) with
    | true => exact nrm_of rfl
    | false =>
      cases decide ((b.2.2.1.length : Int) > 65536) with
      | true => exact nrm_of rfl
      | false => exact ffi_nrm _ _ _
theorem head_loop (b : V_api_Body) (f : Flt) (hf : Nrm f) (hl : b.2.2.1.length ≤ 200000000) : lim valid_checker_head_p0_l12_step (mkC b f, b, b.2.2.1, (b.2.2.1.length : Int), (0 : Int), ()) = some (.inl (mkC b (bif f.1 != 0 then f else ffi (bndG b.1) 0 b.2.2.1), b, ())) := by
  have l1 := lim_foldI (step := valid_checker_head_p0_l12_step) b.2.2.1 (fun i s x => wr s (bndG b.1 i x)) (fun s i => (mkC b s, b, b.2.2.1, (b.2.2.1.length : Int), (i : Int), ())) (fun s => .inl (mkC b s, b, ())) (fun _ _ => True) (fun g i s hi _ => by
    have hw := wrong_eq b s 7 1 (i : Int) 0
    unfold valid_checker_head_p0_l12_step valid_checker_head_p0_j125_v
    simp only [dlt hi, cond_true, inB_nat hi, ck_true, rdL_nat t_easementref08_Pair b.2.2.1 hi, cond_or, wrap_succ (show i < 9223372036854775807 by omega)]
    unfold bndG
    change (Option.bind (bif badB b.1 b.2.2.1[i] then _ else _) _) = _
    cases hb : badB b.1 b.2.2.1[i] with
    | true =>
      simp only [cond_true]
      rw [show ((mkC b s).1, (mkC b s).2.1, (mkC b s).2.2.1, (mkC b s).2.2.2.1, (mkC b s).2.2.2.2.1, (mkC b s).2.2.2.2.2.1, (mkC b s).2.2.2.2.2.2.1, (), (mkC b s).2.2.2.2.2.2.2.2.1, (mkC b s).2.2.2.2.2.2.2.2.2.1, (mkC b s).2.2.2.2.2.2.2.2.2.2.1, (mkC b s).2.2.2.2.2.2.2.2.2.2.2.1, ()) = mkC b s from rfl, hw]
      rfl
    | false =>
      have : wr s ((0 : Int), (1 : Int), (i : Int), (0 : Int), ()) = s := by
        unfold wr
        simp
      simp only [cond_false]
      rw [this]
      rfl) (fun _ _ _ _ => trivial) (fun g s _ => by
    unfold valid_checker_head_p0_l12_step
    simp only [dge (Nat.lt_irrefl _), cond_false]) (s0 := f) trivial
  rw [wr_fold _ _ _ _ hf] at l1
  exact l1
theorem head_eq (b : V_api_Body) (hl : b.2.2.1.length ≤ 200000000) : valid_checker_head_p0 (mkC b zF, ()) = some (.inl (mkC b (hF b), ())) := by
  have j : valid_checker_head_p0_j29_v (mkC b zF, b, decide (b.1 < 1) || decide (b.2.1 < b.1), ()) = some (.inl (mkC b (wr zF (bif decide (b.1 < 1) || decide (b.2.1 < b.1) then 7 else mny b.2.1, 0, 0, 0, ())), b, ())) := by
    have h1 := wrong_eq b zF 7 0 0 0
    have h2 := wrong_eq b zF (mny b.2.1) 0 0 0
    unfold valid_checker_head_p0_j29_v
    simp only
    cases decide (b.1 < 1) || decide (b.2.1 < b.1) with
    | true =>
      simp only [cond_true]
      change Option.bind (valid_checker_wrong_p0 (mkC b zF, (7 : Int), (0 : Int), (0 : Int), (0 : Int), ())) _ = _
      rw [h1]
      rfl
    | false =>
      simp only [cond_false, many_eq, Option.bind_some]
      change Option.bind (valid_checker_wrong_p0 (mkC b zF, mny b.2.1, (0 : Int), (0 : Int), (0 : Int), ())) _ = _
      rw [h2]
      rfl
  unfold valid_checker_head_p0
  simp only [cond_or]
  change Option.bind (valid_checker_head_p0_j29_v (mkC b zF, b, decide (b.1 < 1) || decide (b.2.1 < b.1), ())) _ = _
  rw [j]
  simp only [Option.bind_some, out1_inl, many_eq]
  generalize hf1 : wr zF (bif decide (b.1 < 1) || decide (b.2.1 < b.1) then 7 else mny b.2.1, 0, 0, 0, ()) = f1
  change Option.bind (valid_checker_wrong_p0 (mkC b f1, mny (b.2.2.1.length : Int), (1 : Int), (0 : Int), (0 : Int), ())) _ = _
  rw [wrong_eq]
  simp only [Option.bind_some, out1_inl]
  generalize hf2 : wr f1 (mny (b.2.2.1.length : Int), 1, 0, 0, ()) = f2
  change Option.bind (lim valid_checker_head_p0_l12_step (mkC b f2, b, b.2.2.1, (b.2.2.1.length : Int), (0 : Int), ())) _ = _
  have hres : Nrm f2 ∧ (bif f2.1 != 0 then f2 else ffi (bndG b.1) 0 b.2.2.1) = hF b := by
    subst hf2 hf1
    unfold hF mny
    cases decide (b.1 < 1) || decide (b.2.1 < b.1) with
    | true => exact ⟨nrm_of rfl, rfl⟩
    | false =>
      cases decide (b.2.1 > 65536) with
      | true => exact ⟨nrm_of rfl, rfl⟩
      | false =>
        cases decide ((b.2.2.1.length : Int) > 65536) with
        | true => exact ⟨nrm_of rfl, rfl⟩
        | false => exact ⟨nrm_z, rfl⟩
  rw [head_loop b f2 hres.1 hl, hres.2]
  rfl
theorem rhead_eq (b : V_api_Body) (hl : b.2.2.1.length ≤ 200000000) : ref21_head (b, ()) = some (hF b, ()) := by
  have l1 := lim_foldE (S := Unit) (step := ref21_head_l16_step) b.2.2.1 (fun i _ x => bif (bndG b.1 i x).1 != 0 then Sum.inl (bndG b.1 i x) else .inr ()) (fun _ i => (b, zF, (i : Int), ())) (fun f => .inl (b, f, ())) (fun _ => .inr (.inl (b, zF, ()))) (fun _ _ => True) (fun g i s hi _ => by
    unfold ref21_head_l16_step bndG
    simp only [dlt hi, cond_true, inB_nat hi, ck_true, rdL_nat t_easementref08_Pair b.2.2.1 hi, cond_or, wrap_succ (show i < 9223372036854775807 by omega)]
    change (bif badB b.1 b.2.2.1[i] then _ else _) = _
    cases badB b.1 b.2.2.1[i] <;> rfl) (fun _ _ _ _ _ _ => trivial) (fun g s _ => by
    unfold ref21_head_l16_step
    simp only [dge (Nat.lt_irrefl _), cond_false]) (s0 := ()) trivial
  rw [fe_fold] at l1
  unfold ref21_head hF
  simp only [cond_or]
  cases decide (b.1 < 1) || decide (b.2.1 < b.1) with
  | true => rfl
  | false =>
    cases decide (b.2.1 > 65536) with
    | true => rfl
    | false =>
      cases decide ((b.2.2.1.length : Int) > 65536) with
      | true => rfl
      | false =>
        simp only [cond_false]
        change Option.bind (lim ref21_head_l16_step (b, zF, (0 : Int), ())) _ = _
        have l2 : lim ref21_head_l16_step (b, zF, (0 : Int), ()) = _ := l1
        rw [l2]
        have hn := ffi_nrm (bndG b.1) b.2.2.1 0
        rcases nrm_cases hn with h | h
        · rw [h]; rfl
        · rw [h]; rfl

/-! ### types -/
def tyG (r : Int) (i : Nat) (t : V_api_Type) : Flt := (tC t.1 r, 2, (i : Int), 0, ())
def sgG (i : Nat) (s : V_api_Sig) : Flt := (sgC s, 4, (i : Int), 0, ())
/-- Behind what was wrong, if anything was. -/
def thn (f g : Flt) : Flt := bif f.1 != 0 then f else g
theorem thn_nrm {f g : Flt} (hg : Nrm g) : Nrm (thn f g) := by
  unfold thn
  cases h : f.1 != 0 with
  | true => exact nrm_of h
  | false => exact hg
theorem wr_thn {f : Flt} (h : Nrm f) (g : Flt) : wr f g = thn f (bif g.1 != 0 then g else zF) := by
  rcases nrm_cases h with h' | rfl
  · rw [wr_keep h']
    unfold thn
    rw [h']
    rfl
  · rfl
theorem nz_nrm (g : Flt) : Nrm (bif g.1 != 0 then g else zF) := by
  cases h : g.1 != 0 with
  | true => exact nrm_of h
  | false => exact nrm_z
theorem wr_nrm {f : Flt} (h : Nrm f) (g : Flt) : Nrm (wr f g) := by
  rw [wr_thn h]
  exact thn_nrm (nz_nrm g)
theorem thn_thn (f g h : Flt) : thn (thn f g) h = thn f (thn g h) := by
  unfold thn
  cases hf : f.1 != 0 with
  | true => simp [hf]
  | false => simp
def tF (b : V_api_Body) : Flt := thn (bif sme (b.2.2.2.1.length : Int) != 0 then (sme (b.2.2.2.1.length : Int), 2, 0, 0, ()) else zF) (thn (ffi (tyG b.2.1) 0 b.2.2.2.1) (thn (bif tC b.2.2.2.2.1 b.1 != 0 then (tC b.2.2.2.2.1 b.1, 3, 0, 0, ()) else zF)
  (thn (bif decide ((b.2.2.2.1.length : Int) > 0) && !(shB (tyA b.2.2.2.1 0) b.2.2.2.2.1) then (8, 3, 0, 0, ()) else zF) (thn (bif mny (b.2.2.2.2.2.1.length : Int) != 0 then (mny (b.2.2.2.2.2.1.length : Int), 4, 0, 0, ()) else zF) (ffi sgG 0 b.2.2.2.2.2.1)))))
theorem tF_nrm (b : V_api_Body) : Nrm (tF b) := thn_nrm (thn_nrm (thn_nrm (thn_nrm (thn_nrm (ffi_nrm _ _ _)))))
section
variable (b : V_api_Body)
theorem types_loop (f : Flt) (hf : Nrm f) (hl : b.2.2.2.1.length ≤ 200000000) : lim valid_checker_types_p0_l6_step (mkC b f, b, b.2.2.2.1, (b.2.2.2.1.length : Int), (0 : Int), ()) = some (.inl (mkC b (thn f (ffi (tyG b.2.1) 0 b.2.2.2.1)), b, ())) := by
  have l1 := lim_foldI (step := valid_checker_types_p0_l6_step) b.2.2.2.1 (fun i s x => wr s (tyG b.2.1 i x)) (fun s i => (mkC b s, b, b.2.2.2.1, (b.2.2.2.1.length : Int), (i : Int), ())) (fun s => .inl (mkC b s, b, ())) (fun _ _ => True) (fun g i s hi _ => by
    unfold valid_checker_types_p0_l6_step
    simp only [dlt hi, cond_true, inB_nat hi, ck_true, rdL_nat t_api_Type b.2.2.2.1 hi, wrap_succ (show i < 9223372036854775807 by omega)]
    rw [show row_Check ((b.2.2.2.1[i].1, ()), b.2.1, ()) = some (tC b.2.2.2.1[i].1 b.2.1, ()) from row_Check_eq _ _]
    simp only [Option.bind_some]
    change Option.bind (valid_checker_wrong_p0 (mkC b s, tC b.2.2.2.1[i].1 b.2.1, (2 : Int), (i : Int), (0 : Int), ())) _ = _
    rw [wrong_eq]
    rfl) (fun _ _ _ _ => trivial) (fun g s _ => by
    unfold valid_checker_types_p0_l6_step
    simp only [dge (Nat.lt_irrefl _), cond_false]) (s0 := f) trivial
  rw [wr_fold _ _ _ _ hf] at l1
  exact l1
theorem sigs_loop (f : Flt) (hf : Nrm f) (hl : b.2.2.2.2.2.1.length ≤ 200000000) : lim valid_checker_types_p0_l24_step (mkC b f, b.2.2.2.2.2.1, (b.2.2.2.2.2.1.length : Int), (0 : Int), ()) = some (.inl (mkC b (thn f (ffi sgG 0 b.2.2.2.2.2.1)), ())) := by
  have l1 := lim_foldI (step := valid_checker_types_p0_l24_step) b.2.2.2.2.2.1 (fun i s x => wr s (sgG i x)) (fun s i => (mkC b s, b.2.2.2.2.2.1, (b.2.2.2.2.2.1.length : Int), (i : Int), ())) (fun s => .inl (mkC b s, ())) (fun _ _ => True) (fun g i s hi _ => by
    unfold valid_checker_types_p0_l24_step
    simp only [dlt hi, cond_true, inB_nat hi, ck_true, rdL_nat t_api_Sig b.2.2.2.2.2.1 hi, wrap_succ (show i < 9223372036854775807 by omega)]
    change Option.bind (sig_Check (b.2.2.2.2.2.1[i], ())) _ = _
    rw [sig_Check_eq]
    simp only [Option.bind_some]
    change Option.bind (valid_checker_wrong_p0 (mkC b s, sgC b.2.2.2.2.2.1[i], (4 : Int), (i : Int), (0 : Int), ())) _ = _
    rw [wrong_eq]
    rfl) (fun _ _ _ _ => trivial) (fun g s _ => by
    unfold valid_checker_types_p0_l24_step
    simp only [dge (Nat.lt_irrefl _), cond_false]) (s0 := f) trivial
  rw [wr_fold _ _ _ _ hf] at l1
  exact l1
theorem j107_eq (f : Flt) (c : Bool) : valid_checker_types_p0_j107_v (mkC b f, c, ()) = some (.inl (mkC b (bif c then wr f (8, 3, 0, 0, ()) else f), ())) := by
  unfold valid_checker_types_p0_j107_v
  cases c with
  | true =>
    simp only [cond_true]
    change Option.bind (valid_checker_wrong_p0 (mkC b f, (8 : Int), (3 : Int), (0 : Int), (0 : Int), ())) _ = _
    rw [wrong_eq]
    rfl
  | false => rfl
theorem types_eq (f : Flt) (hf : Nrm f) (hs : TySm b.2.2.2.1) (hl : b.2.2.2.1.length ≤ 200000000) (hl2 : b.2.2.2.2.2.1.length ≤ 200000000) : valid_checker_types_p0 (mkC b f, ()) = some (.inl (mkC b (thn f (tF b)), ())) := by
  unfold valid_checker_types_p0
  simp only [show (mkC b f).2.2.2.1 = b.2.2.2.1 from rfl, some_eq, Option.bind_some]
  change Option.bind (valid_checker_wrong_p0 (mkC b f, sme (b.2.2.2.1.length : Int), (2 : Int), (0 : Int), (0 : Int), ())) _ = _
  rw [wrong_eq]
  simp only [Option.bind_some, out1_inl]
  change Option.bind (lim valid_checker_types_p0_l6_step (mkC b (wr f (sme (b.2.2.2.1.length : Int), 2, 0, 0, ())), b, b.2.2.2.1, (b.2.2.2.1.length : Int), (0 : Int), ())) _ = _
  rw [types_loop b _ (wr_nrm hf _) hl]
  simp only [Option.bind_some, out1_inl]
  rw [show row_Check ((b.2.2.2.2.1, ()), b.1, ()) = some (tC b.2.2.2.2.1 b.1, ()) from row_Check_eq _ _]
  simp only [Option.bind_some]
  have h2 : Nrm (thn (wr f (sme (b.2.2.2.1.length : Int), 2, 0, 0, ())) (ffi (tyG b.2.1) 0 b.2.2.2.1)) := thn_nrm (ffi_nrm _ _ _)
  generalize hf2 : thn (wr f (sme (b.2.2.2.1.length : Int), 2, 0, 0, ())) (ffi (tyG b.2.1) 0 b.2.2.2.1) = f2 at h2
  change Option.bind (valid_checker_wrong_p0 (mkC b f2, tC b.2.2.2.2.1 b.1, (3 : Int), (0 : Int), (0 : Int), ())) _ = _
  rw [wrong_eq]
  simp only [Option.bind_some, out1_inl]
  have h3 := wr_nrm h2 (tC b.2.2.2.2.1 b.1, 3, 0, 0, ())
  generalize hf3 : wr f2 (tC b.2.2.2.2.1 b.1, 3, 0, 0, ()) = f3 at h3
  have rest : ∀ f4 : Flt, Nrm f4 → (Option.bind (valid_many ((b.2.2.2.2.2.1.length : Int), ())) fun y17 =>
      Option.bind (valid_checker_wrong_p0 (mkC b f4, y17.1, (4 : Int), (0 : Int), (0 : Int), ())) fun y18 => out1 y18 fun z19 =>
        Option.bind (lim valid_checker_types_p0_l24_step (z19.1, b.2.2.2.2.2.1, (b.2.2.2.2.2.1.length : Int), (0 : Int), ())) fun y23 => out1 y23 fun z24 => some (Sum.inl (z24.1, ()) : (Ckr × Unit) ⊕ Empty)) =
      some (.inl (mkC b (thn f4 (thn (bif mny (b.2.2.2.2.2.1.length : Int) != 0 then (mny (b.2.2.2.2.2.1.length : Int), 4, 0, 0, ()) else zF) (ffi sgG 0 b.2.2.2.2.2.1))), ())) := fun f4 h4 => by
    simp only [many_eq, Option.bind_some]
    rw [wrong_eq]
    simp only [Option.bind_some, out1_inl]
    rw [sigs_loop b _ (wr_nrm h4 _) hl2, wr_thn h4, thn_thn]
    rfl
  have fin : ∀ c : Bool, thn (bif c then wr f3 (8, 3, 0, 0, ()) else f3) (thn (bif mny (b.2.2.2.2.2.1.length : Int) != 0 then (mny (b.2.2.2.2.2.1.length : Int), 4, 0, 0, ()) else zF) (ffi sgG 0 b.2.2.2.2.2.1)) =
      thn f (thn (bif sme (b.2.2.2.1.length : Int) != 0 then (sme (b.2.2.2.1.length : Int), 2, 0, 0, ()) else zF) (thn (ffi (tyG b.2.1) 0 b.2.2.2.1) (thn (bif tC b.2.2.2.2.1 b.1 != 0 then (tC b.2.2.2.2.1 b.1, 3, 0, 0, ()) else zF)
        (thn (bif c then (8, 3, 0, 0, ()) else zF) (thn (bif mny (b.2.2.2.2.2.1.length : Int) != 0 then (mny (b.2.2.2.2.2.1.length : Int), 4, 0, 0, ()) else zF) (ffi sgG 0 b.2.2.2.2.2.1)))))) := fun c => by
    have e3 : (bif c then wr f3 (8, 3, 0, 0, ()) else f3) = thn f3 (bif c then (8, 3, 0, 0, ()) else zF) := by
      cases c with
      | true => simp only [cond_true]; rw [wr_thn h3]; rfl
      | false =>
        simp only [cond_false]
        rcases nrm_cases h3 with h' | h'
        · unfold thn; rw [h']; rfl
        · rw [h']; rfl
    rw [e3, ← hf3, wr_thn h2, ← hf2, wr_thn hf, thn_thn, thn_thn, thn_thn, thn_thn]
  have n4 : ∀ c : Bool, Nrm (bif c then wr f3 (8, 3, 0, 0, ()) else f3) := fun c => by
    cases c with
    | true => exact wr_nrm h3 _
    | false => exact h3
  unfold tF
  cases hd : decide ((b.2.2.2.1.length : Int) > 0) with
  | true =>
    have hpos : 0 < b.2.2.2.1.length := by
      have := of_decide_eq_true hd
      omega
    rw [show inB (0 : Int) b.2.2.2.1.length = true from by simp [inB]; omega]
    simp only [Bool.true_or, ck_true, cond_true, Bool.true_and]
    rw [show row_Shape (((rdL t_api_Type b.2.2.2.1 (0 : Int)).1, ()), (b.2.2.2.2.1, ()), ()) = some (shB (tyA b.2.2.2.1 0) b.2.2.2.2.1, ()) from row_Shape_eq _ _ (by have := tyA_len hs 0; unfold tyA at this; omega)]
    simp only [Option.bind_some]
    change Option.bind (valid_checker_types_p0_j107_v (mkC b f3, !(shB (tyA b.2.2.2.1 0) b.2.2.2.2.1), ())) _ = _
    rw [j107_eq]
    simp only [Option.bind_some, out1_inl]
    exact (rest _ (n4 _)).trans (by rw [fin])
  | false =>
    simp only [Bool.not_false, Bool.or_true, ck_true, cond_false, Bool.false_and]
    change Option.bind (valid_checker_types_p0_j107_v (mkC b f3, false, ())) _ = _
    rw [j107_eq]
    simp only [Option.bind_some, out1_inl]
    exact (rest _ (n4 false)).trans (by rw [fin]; rfl)
end

theorem thn_z (g : Flt) : thn zF g = g := rfl
theorem nz_of (e p i k : Int) : (bif e != 0 then ((e, p, i, k, ()) : Flt) else zF) = bif ((e, p, i, k, ()) : Flt).1 != 0 then (e, p, i, k, ()) else zF := rfl
theorem ne_thn {f : Flt} (h : (f.1 != 0) = true) (g : Flt) : thn f g = f := by unfold thn; rw [h]; rfl
theorem rtypes_eq (b : V_api_Body) (hs : TySm b.2.2.2.1) (hl : b.2.2.2.1.length ≤ 200000000) (hl2 : b.2.2.2.2.2.1.length ≤ 200000000) : ref21_types (b, ()) = some (tF b, ()) := by
  have l1 : lim ref21_types_l12_step (b, zF, (0 : Int), ()) = _ := lim_foldE (S := Unit) (step := ref21_types_l12_step) b.2.2.2.1 (fun i _ x => bif (tyG b.2.1 i x).1 != 0 then Sum.inl (tyG b.2.1 i x) else .inr ()) (fun _ i => (b, zF, (i : Int), ())) (fun f => .inl (b, f, ())) (fun _ => .inr (.inl (b, zF, ()))) (fun _ _ => True) (fun g i s hi _ => by
    unfold ref21_types_l12_step tyG
    simp only [dlt hi, cond_true, inB_nat hi, ck_true, rdL_nat t_api_Type b.2.2.2.1 hi, wrap_succ (show i < 9223372036854775807 by omega)]
    rw [show ref15_Check ((b.2.2.2.1[i].1, ()), b.2.1, ()) = some (tC b.2.2.2.1[i].1 b.2.1, ()) from ref15_Check_eq _ _]
    simp only [Option.bind_some]
    cases tC b.2.2.2.1[i].1 b.2.1 != 0 <;> rfl) (fun _ _ _ _ _ _ => trivial) (fun g s _ => by
    unfold ref21_types_l12_step
    simp only [dge (Nat.lt_irrefl _), cond_false]) (s0 := ()) trivial
  have l2 : lim ref21_types_l38_step (b, zF, (0 : Int), ()) = _ := lim_foldE (S := Unit) (step := ref21_types_l38_step) b.2.2.2.2.2.1 (fun i _ x => bif (sgG i x).1 != 0 then Sum.inl (sgG i x) else .inr ()) (fun _ i => (b, zF, (i : Int), ())) (fun f => .inl (b, f, ())) (fun _ => .inr (.inl (b, zF, ()))) (fun _ _ => True) (fun g i s hi _ => by
    unfold ref21_types_l38_step sgG
    simp only [dlt hi, cond_true, inB_nat hi, ck_true, rdL_nat t_api_Sig b.2.2.2.2.2.1 hi, wrap_succ (show i < 9223372036854775807 by omega)]
    change Option.bind (ref17_Check (b.2.2.2.2.2.1[i], ())) _ = _
    rw [ref17_Check_eq]
    simp only [Option.bind_some]
    cases sgC b.2.2.2.2.2.1[i] != 0 <;> rfl) (fun _ _ _ _ _ _ => trivial) (fun g s _ => by
    unfold ref21_types_l38_step
    simp only [dge (Nat.lt_irrefl _), cond_false]) (s0 := ()) trivial
  rw [fe_fold] at l1 l2
  unfold ref21_types tF
  simp only
  unfold sme
  cases h0 : ((b.2.2.2.1.length : Int) == 0) with
  | true => rfl
  | false =>
    have hpos : 0 < b.2.2.2.1.length := by
      have := beq_eq_false_iff_ne.1 h0
      omega
    simp only [cond_false]
    cases h1 : decide ((b.2.2.2.1.length : Int) > 65536) with
    | true => unfold mny; rw [h1]; rfl
    | false =>
      rw [show mny (b.2.2.2.1.length : Int) = 0 from by unfold mny; rw [h1]; rfl]
      simp only [cond_false]
      change Option.bind (lim ref21_types_l12_step (b, zF, (0 : Int), ())) _ = _
      rw [l1]
      have hn := ffi_nrm (tyG b.2.1) b.2.2.2.1 0
      rcases nrm_cases hn with h | h
      · rw [h, show (bif (0 : Int) != 0 then (((0 : Int), (2 : Int), (0 : Int), (0 : Int), ()) : Flt) else zF) = zF from rfl, thn_z, ne_thn h]
        rfl
      · rw [h]
        simp only [show (bif zF.1 != 0 then (Sum.inl zF : Flt ⊕ Unit) else .inr ()) = .inr () from rfl, Option.bind_some, out2_inr]
        rw [show ref15_Check ((b.2.2.2.2.1, ()), b.1, ()) = some (tC b.2.2.2.2.1 b.1, ()) from ref15_Check_eq _ _]
        simp only [Option.bind_some]
        rw [show (bif (0 : Int) != 0 then (((0 : Int), (2 : Int), (0 : Int), (0 : Int), ()) : Flt) else zF) = zF from rfl, thn_z, thn_z]
        cases h2 : tC b.2.2.2.2.1 b.1 != 0 with
        | true =>
          simp only [cond_true]
          rw [ne_thn h2]
        | false =>
          simp only [cond_false, thn_z]
          rw [show inB (0 : Int) b.2.2.2.1.length = true from by simp [inB]; omega, ck_true]
          rw [show ref15_Shape (((rdL t_api_Type b.2.2.2.1 (0 : Int)).1, ()), (b.2.2.2.2.1, ()), ()) = some (shB (tyA b.2.2.2.1 0) b.2.2.2.2.1, ()) from ref15_Shape_eq _ _ (by have := tyA_len hs 0; unfold tyA at this; omega)]
          simp only [Option.bind_some]
          rw [show decide ((b.2.2.2.1.length : Int) > 0) = true from by simp; omega, Bool.true_and]
          cases h3 : !(shB (tyA b.2.2.2.1 0) b.2.2.2.2.1) with
          | true => rfl
          | false =>
            simp only [cond_false, thn_z]
            cases h4 : decide ((b.2.2.2.2.2.1.length : Int) > 65536) with
            | true => unfold mny; rw [h4]; rfl
            | false =>
              rw [show mny (b.2.2.2.2.2.1.length : Int) = 0 from by unfold mny; rw [h4]; rfl]
              simp only [cond_false]
              change Option.bind (lim ref21_types_l38_step (b, zF, (0 : Int), ())) _ = _
              rw [l2]
              have hn2 := ffi_nrm sgG b.2.2.2.2.2.1 0
              rcases nrm_cases hn2 with h' | h'
              · rw [h']; rfl
              · rw [h']; rfl

/-! ### blocks -/
def cntF : Int → Nat → List V_api_Block → Flt
  | _, _, [] => zF
  | n, i, x :: l => bif mny (IntKind.i64.wrap (n + (x.1.length : Int))) != 0 then (mny (IntKind.i64.wrap (n + (x.1.length : Int))), 5, (i : Int), 0, ()) else cntF (IntKind.i64.wrap (n + (x.1.length : Int))) (i + 1) l
theorem cntF_cons (n : Int) (i : Nat) (x : V_api_Block) (l : List V_api_Block) : cntF n i (x :: l) = bif mny (IntKind.i64.wrap (n + (x.1.length : Int))) != 0 then (mny (IntKind.i64.wrap (n + (x.1.length : Int))), 5, (i : Int), 0, ()) else cntF (IntKind.i64.wrap (n + (x.1.length : Int))) (i + 1) l := rfl
theorem cntF_nrm : ∀ (l : List V_api_Block) (n : Int) (i : Nat), Nrm (cntF n i l)
  | [], _, _ => nrm_z
  | x :: l, n, i => by
    unfold cntF
    cases h : mny (IntKind.i64.wrap (n + (x.1.length : Int))) != 0 with
    | true => exact nrm_of h
    | false => exact cntF_nrm l _ _
def cntS (i : Nat) (s : Int × Flt) (x : V_api_Block) : Int × Flt := (IntKind.i64.wrap (s.1 + (x.1.length : Int)), wr s.2 (mny (IntKind.i64.wrap (s.1 + (x.1.length : Int))), 5, (i : Int), 0, ()))
theorem cnt_fold : ∀ (l : List V_api_Block) (i : Nat) (n : Int) (f : Flt), Nrm f → (foldI cntS i (n, f) l).2 = thn f (cntF n i l)
  | [], i, n, f, h => by
    rcases nrm_cases h with h' | rfl
    · rw [ne_thn h']; rfl
    · rfl
  | x :: l, i, n, f, h => by
    simp only [foldI, cntS]
    rw [cnt_fold l _ _ _ (wr_nrm h _), wr_thn h, thn_thn, cntF_cons]
    cases hm : mny (IntKind.i64.wrap (n + (x.1.length : Int))) != 0 with
    | true =>
      simp only [hm, cond_true]
      rw [ne_thn (f := (mny (IntKind.i64.wrap (n + (x.1.length : Int))), 5, (i : Int), 0, ())) hm]
    | false =>
      simp only [hm, cond_false, thn_z]
theorem cnt_foldE : ∀ (l : List V_api_Block) (i : Nat) (n : Int), ∃ m, foldE (fun (i : Nat) (n : Int) (x : V_api_Block) => bif decide (IntKind.i64.wrap (n + (x.1.length : Int)) > 65536) then Sum.inl (((6 : Int), (5 : Int), (i : Int), (0 : Int), ()) : Flt) else .inr (IntKind.i64.wrap (n + (x.1.length : Int)))) i n l = bif (cntF n i l).1 != 0 then .inl (cntF n i l) else .inr m
  | [], i, n => ⟨n, rfl⟩
  | x :: l, i, n => by
    simp only [foldE]
    unfold cntF mny
    cases hm : decide (IntKind.i64.wrap (n + (x.1.length : Int)) > 65536) with
    | true => exact ⟨0, rfl⟩
    | false => exact cnt_foldE l (i + 1) _
theorem thn_fold {α : Type} (g : Nat → α → Flt) : ∀ (l : List α) (i : Nat) (f : Flt), Nrm f → (∀ i x, Nrm (g i x)) → foldI (fun i s x => thn s (g i x)) i f l = thn f (ffi g i l)
  | [], i, f, h, _ => by
    rcases nrm_cases h with h' | rfl
    · rw [ne_thn h']; rfl
    · rfl
  | x :: l, i, f, h, hg => by
    simp only [foldI]
    rw [thn_fold g l (i + 1) _ (thn_nrm (hg i x)) hg, thn_thn]
    rfl
def ard (b : V_api_Body) : V_term_Around := ((b.2.2.2.2.2.2.1.length : Int), b.2.1, b.2.2.2.1, b.2.2.2.2.1, b.2.2.2.2.2.1, ())
def stG (b : V_api_Body) (i : Nat) (k : Nat) (s : V_api_Prov) : Flt := ((stS s b.2.2.2.1 b.2.1).2.1, 6, (i : Int), (k : Int), ())
def blkG (b : V_api_Body) (i : Nat) (x : V_api_Block) : Flt := thn (ffi (stG b i) 0 x.1) (bif (teS x.2 (ard b)).2.1 != 0 then ((teS x.2 (ard b)).2.1, 7, (i : Int), 0, ()) else zF)
theorem blkG_nrm (b : V_api_Body) (i : Nat) (x : V_api_Block) : Nrm (blkG b i x) := thn_nrm (nz_nrm ((teS x.2 (ard b)).2.1, 7, (i : Int), 0, ()))
def bF (b : V_api_Body) : Flt := thn (bif sme (b.2.2.2.2.2.2.1.length : Int) != 0 then (sme (b.2.2.2.2.2.2.1.length : Int), 5, 0, 0, ()) else zF) (thn (cntF 0 0 b.2.2.2.2.2.2.1) (ffi (blkG b) 0 b.2.2.2.2.2.2.1))
theorem bF_nrm (b : V_api_Body) : Nrm (bF b) := thn_nrm (thn_nrm (ffi_nrm _ _ _))
section
variable (b : V_api_Body) (hs : TySm b.2.2.2.1) (hr : b.2.2.2.2.1.length ≤ 1099999) (hl : b.2.2.2.2.2.2.1.length ≤ 200000000) (hl2 : ∀ x ∈ b.2.2.2.2.2.2.1, x.1.length ≤ 200000000)
include hl
theorem cnt_loop (f : Flt) (hf : Nrm f) : lim valid_checker_blocks_p0_l8_step (mkC b f, (0 : Int), b.2.2.2.2.2.2.1, (b.2.2.2.2.2.2.1.length : Int), (0 : Int), ()) = some (.inl (mkC b (thn f (cntF 0 0 b.2.2.2.2.2.2.1)), ())) := by
  have l1 := lim_foldI (step := valid_checker_blocks_p0_l8_step) b.2.2.2.2.2.2.1 cntS (fun s i => (mkC b s.2, s.1, b.2.2.2.2.2.2.1, (b.2.2.2.2.2.2.1.length : Int), (i : Int), ())) (fun s => .inl (mkC b s.2, ())) (fun _ _ => True) (fun g i s hi _ => by
    unfold valid_checker_blocks_p0_l8_step
    simp only [dlt hi, cond_true, inB_nat hi, ck_true, rdL_nat t_api_Block b.2.2.2.2.2.2.1 hi, wrap_succ (show i < 9223372036854775807 by omega), many_eq, Option.bind_some]
    change Option.bind (valid_checker_wrong_p0 (mkC b s.2, mny (IntKind.i64.wrap (s.1 + (b.2.2.2.2.2.2.1[i].1.length : Int))), (5 : Int), (i : Int), (0 : Int), ())) _ = _
    rw [wrong_eq]
    rfl) (fun _ _ _ _ => trivial) (fun g s _ => by
    unfold valid_checker_blocks_p0_l8_step
    simp only [dge (Nat.lt_irrefl _), cond_false]) (s0 := (0, f)) trivial
  rw [cnt_fold _ _ _ _ hf] at l1
  exact l1
include hs hr hl2
theorem stm_loop (i : Nat) (x : V_api_Block) (hx : x.1.length ≤ 200000000) (f : Flt) (hf : Nrm f) : lim valid_checker_blocks_p0_l28_step (mkC b f, b, (i : Int), x.1, (x.1.length : Int), (0 : Int), ()) = some (.inl (mkC b (thn f (ffi (stG b i) 0 x.1)), b, ())) := by
  have l1 := lim_foldI (step := valid_checker_blocks_p0_l28_step) x.1 (fun k s y => wr s (stG b i k y)) (fun s k => (mkC b s, b, (i : Int), x.1, (x.1.length : Int), (k : Int), ())) (fun s => .inl (mkC b s, b, ())) (fun _ _ => True) (fun g k s hk _ => by
    unfold valid_checker_blocks_p0_l28_step
    simp only [dlt hk, cond_true, inB_nat hk, ck_true, rdL_nat t_api_Prov x.1 hk, wrap_succ (show k < 9223372036854775807 by omega)]
    change Option.bind (stmt_Check (x.1[k], b.2.2.2.1, b.2.1, ())) _ = _
    rw [stCheck_eq _ _ hs]
    simp only [Option.bind_some]
    change Option.bind (valid_checker_wrong_p0 (mkC b s, (stS x.1[k] b.2.2.2.1 b.2.1).2.1, (6 : Int), (i : Int), (k : Int), ())) _ = _
    rw [wrong_eq]
    rfl) (fun _ _ _ _ => trivial) (fun g s _ => by
    unfold valid_checker_blocks_p0_l28_step
    simp only [dge (Nat.lt_irrefl _), cond_false]) (s0 := f) trivial
  rw [wr_fold _ _ _ _ hf] at l1
  exact l1
theorem blk_loop (f : Flt) (hf : Nrm f) : lim valid_checker_blocks_p0_l22_step (mkC b f, b, ard b, b.2.2.2.2.2.2.1, (b.2.2.2.2.2.2.1.length : Int), (0 : Int), ()) = some (.inl (mkC b (thn f (ffi (blkG b) 0 b.2.2.2.2.2.2.1)), b, ard b, ())) := by
  have l1 := lim_foldI (step := valid_checker_blocks_p0_l22_step) b.2.2.2.2.2.2.1 (fun i s x => thn s (blkG b i x)) (fun s i => (mkC b s, b, ard b, b.2.2.2.2.2.2.1, (b.2.2.2.2.2.2.1.length : Int), (i : Int), ())) (fun s => .inl (mkC b s, b, ard b, ())) (fun _ s => Nrm s) (fun g i s hi hinv => by
    unfold valid_checker_blocks_p0_l22_step
    simp only [dlt hi, cond_true, inB_nat hi, ck_true, rdL_nat t_api_Block b.2.2.2.2.2.2.1 hi, wrap_succ (show i < 9223372036854775807 by omega)]
    change Option.bind (lim valid_checker_blocks_p0_l28_step (mkC b s, b, (i : Int), b.2.2.2.2.2.2.1[i].1, (b.2.2.2.2.2.2.1[i].1.length : Int), (0 : Int), ())) _ = _
    rw [stm_loop b hs hr hl hl2 i b.2.2.2.2.2.2.1[i] (hl2 _ (List.getElem_mem hi)) s hinv]
    simp only [Option.bind_some, out1_inl]
    change Option.bind (term_Check (b.2.2.2.2.2.2.1[i].2, ard b, ())) _ = _
    rw [tCheck_eq _ _ hs hr]
    simp only [Option.bind_some]
    change Option.bind (valid_checker_wrong_p0 (mkC b (thn s (ffi (stG b i) 0 b.2.2.2.2.2.2.1[i].1)), (teS b.2.2.2.2.2.2.1[i].2 (ard b)).2.1, (7 : Int), (i : Int), (0 : Int), ())) _ = _
    rw [wrong_eq, wr_thn (thn_nrm (ffi_nrm _ _ _)), thn_thn]
    rfl) (fun i s hi _ => thn_nrm (blkG_nrm b i _)) (fun g s _ => by
    unfold valid_checker_blocks_p0_l22_step
    simp only [dge (Nat.lt_irrefl _), cond_false]) (s0 := f) hf
  rw [thn_fold _ _ _ _ hf (blkG_nrm b)] at l1
  exact l1
theorem blocks_eq (f : Flt) (hf : Nrm f) : valid_checker_blocks_p0 (mkC b f, ()) = some (.inl (mkC b (thn f (bF b)), ())) := by
  unfold valid_checker_blocks_p0
  simp only [show (mkC b f).2.2.2.2.2.2.1 = b.2.2.2.2.2.2.1 from rfl, some_eq, Option.bind_some]
  change Option.bind (valid_checker_wrong_p0 (mkC b f, sme (b.2.2.2.2.2.2.1.length : Int), (5 : Int), (0 : Int), (0 : Int), ())) _ = _
  rw [wrong_eq]
  simp only [Option.bind_some, out1_inl]
  change Option.bind (lim valid_checker_blocks_p0_l8_step (mkC b (wr f (sme (b.2.2.2.2.2.2.1.length : Int), 5, 0, 0, ())), (0 : Int), b.2.2.2.2.2.2.1, (b.2.2.2.2.2.2.1.length : Int), (0 : Int), ())) _ = _
  rw [cnt_loop b hl _ (wr_nrm hf _)]
  simp only [Option.bind_some, out1_inl]
  change Option.bind (lim valid_checker_blocks_p0_l22_step (mkC b (thn (wr f (sme (b.2.2.2.2.2.2.1.length : Int), 5, 0, 0, ())) (cntF 0 0 b.2.2.2.2.2.2.1)), b, ard b, b.2.2.2.2.2.2.1, (b.2.2.2.2.2.2.1.length : Int), (0 : Int), ())) _ = _
  rw [blk_loop b hs hr hl hl2 _ (thn_nrm (cntF_nrm _ _ _)), wr_thn hf, thn_thn, thn_thn]
  rfl
end

section
variable (b : V_api_Body) (hs : TySm b.2.2.2.1) (hr : b.2.2.2.2.1.length ≤ 1099999) (hl : b.2.2.2.2.2.2.1.length ≤ 200000000) (hl2 : ∀ x ∈ b.2.2.2.2.2.2.1, x.1.length ≤ 200000000)
include hl
theorem rcnt_loop : lim ref21_blocks_l14_step (b, zF, (0 : Int), (0 : Int), ()) = some (bif (cntF 0 0 b.2.2.2.2.2.2.1).1 != 0 then .inl (b, cntF 0 0 b.2.2.2.2.2.2.1, ()) else .inr (.inl (b, zF, ()))) := by
  have l1 := lim_foldE (step := ref21_blocks_l14_step) b.2.2.2.2.2.2.1 (fun (i : Nat) (n : Int) (x : V_api_Block) => bif decide (IntKind.i64.wrap (n + (x.1.length : Int)) > 65536) then Sum.inl (((6 : Int), (5 : Int), (i : Int), (0 : Int), ()) : Flt) else .inr (IntKind.i64.wrap (n + (x.1.length : Int)))) (fun n i => (b, zF, n, (i : Int), ())) (fun f => .inl (b, f, ())) (fun _ => .inr (.inl (b, zF, ()))) (fun _ _ => True) (fun g i s hi _ => by
    unfold ref21_blocks_l14_step
    simp only [dlt hi, cond_true, inB_nat hi, ck_true, rdL_nat t_api_Block b.2.2.2.2.2.2.1 hi, wrap_succ (show i < 9223372036854775807 by omega)]
    cases decide (IntKind.i64.wrap (s + (b.2.2.2.2.2.2.1[i].1.length : Int)) > 65536) <;> rfl) (fun _ _ _ _ _ _ => trivial) (fun g s _ => by
    unfold ref21_blocks_l14_step
    simp only [dge (Nat.lt_irrefl _), cond_false]) (s0 := (0 : Int)) trivial
  obtain ⟨m, hm⟩ := cnt_foldE b.2.2.2.2.2.2.1 0 0
  rw [hm] at l1
  refine l1.trans ?_
  cases (cntF 0 0 b.2.2.2.2.2.2.1).1 != 0 <;> rfl
include hs hr hl2
theorem rstm_loop (i : Nat) (x : V_api_Block) (hx : x.1.length ≤ 200000000) : lim ref21_blocks_l36_step (b, zF, (i : Int), x.1, (0 : Int), ()) = some (bif (ffi (stG b i) 0 x.1).1 != 0 then .inl (b, ffi (stG b i) 0 x.1, ()) else .inr (.inl (b, zF, ()))) := by
  have l1 := lim_foldE (S := Unit) (step := ref21_blocks_l36_step) x.1 (fun k _ y => bif (stG b i k y).1 != 0 then Sum.inl (stG b i k y) else .inr ()) (fun _ k => (b, zF, (i : Int), x.1, (k : Int), ())) (fun f => .inl (b, f, ())) (fun _ => .inr (.inl (b, zF, ()))) (fun _ _ => True) (fun g k s hk _ => by
    unfold ref21_blocks_l36_step stG
    simp only [dlt hk, cond_true, inB_nat hk, ck_true, rdL_nat t_api_Prov x.1 hk, wrap_succ (show k < 9223372036854775807 by omega)]
    change Option.bind (ref18_Needs (x.1[k], b.2.2.2.1, b.2.1, ())) _ = _
    rw [rstNeeds_eq _ _ hs]
    simp only [Option.bind_some]
    cases (stS x.1[k] b.2.2.2.1 b.2.1).2.1 != 0 <;> rfl) (fun _ _ _ _ _ _ => trivial) (fun g s _ => by
    unfold ref21_blocks_l36_step
    simp only [dge (Nat.lt_irrefl _), cond_false]) (s0 := ()) trivial
  rw [fe_fold] at l1
  refine l1.trans ?_
  cases (ffi (stG b i) 0 x.1).1 != 0 <;> rfl
theorem rblk_loop : lim ref21_blocks_l28_step (b, zF, ard b, (0 : Int), ()) = some (bif (ffi (blkG b) 0 b.2.2.2.2.2.2.1).1 != 0 then .inl (b, ffi (blkG b) 0 b.2.2.2.2.2.2.1, ard b, ()) else .inr (.inl (b, zF, ard b, ()))) := by
  have l1 := lim_foldE (S := Unit) (step := ref21_blocks_l28_step) b.2.2.2.2.2.2.1 (fun i _ x => bif (blkG b i x).1 != 0 then Sum.inl (blkG b i x) else .inr ()) (fun _ i => (b, zF, ard b, (i : Int), ())) (fun f => .inl (b, f, ard b, ())) (fun _ => .inr (.inl (b, zF, ard b, ()))) (fun _ _ => True) (fun g i s hi _ => by
    unfold ref21_blocks_l28_step
    simp only [dlt hi, cond_true, inB_nat hi, ck_true, rdL_nat t_api_Block b.2.2.2.2.2.2.1 hi, wrap_succ (show i < 9223372036854775807 by omega)]
    change Option.bind (lim ref21_blocks_l36_step (b, zF, (i : Int), b.2.2.2.2.2.2.1[i].1, (0 : Int), ())) _ = _
    rw [rstm_loop b hs hr hl hl2 i b.2.2.2.2.2.2.1[i] (hl2 _ (List.getElem_mem hi))]
    simp only [Option.bind_some]
    unfold blkG
    rcases nrm_cases (ffi_nrm (stG b i) b.2.2.2.2.2.2.1[i].1 0) with h | h
    · rw [ne_thn h, h]
      rfl
    · rw [h, thn_z]
      simp only [show (bif zF.1 != 0 then (Sum.inl (b, zF, ()) : (V_api_Body × Flt × Unit) ⊕ ((V_api_Body × Flt × Unit) ⊕ Empty)) else .inr (.inl (b, zF, ()))) = .inr (.inl (b, zF, ())) from rfl, out2_inr, inB_nat hi, ck_true, rdL_nat t_api_Block b.2.2.2.2.2.2.1 hi]
      change Option.bind (ref19_Needs (b.2.2.2.2.2.2.1[i].2, ard b, ())) _ = _
      rw [rtNeeds_eq _ _ hs hr]
      simp only [Option.bind_some]
      cases ht : (teS b.2.2.2.2.2.2.1[i].2 (ard b)).2.1 != 0 with
      | true => simp only [cond_true, ht]
      | false => rfl) (fun _ _ _ _ _ _ => trivial) (fun g s _ => by
    unfold ref21_blocks_l28_step
    simp only [dge (Nat.lt_irrefl _), cond_false]) (s0 := ()) trivial
  rw [fe_fold] at l1
  refine l1.trans ?_
  cases (ffi (blkG b) 0 b.2.2.2.2.2.2.1).1 != 0 <;> rfl
theorem rblocks_eq : ref21_blocks (b, ()) = some (bF b, ()) := by
  unfold ref21_blocks bF
  simp only
  unfold sme
  cases h0 : ((b.2.2.2.2.2.2.1.length : Int) == 0) with
  | true => rfl
  | false =>
    simp only [cond_false]
    cases h1 : decide ((b.2.2.2.2.2.2.1.length : Int) > 65536) with
    | true => unfold mny; rw [h1]; rfl
    | false =>
      rw [show mny (b.2.2.2.2.2.2.1.length : Int) = 0 from by unfold mny; rw [h1]; rfl, show (bif (0 : Int) != 0 then (((0 : Int), (5 : Int), (0 : Int), (0 : Int), ()) : Flt) else zF) = zF from rfl, thn_z]
      simp only [cond_false]
      change Option.bind (lim ref21_blocks_l14_step (b, zF, (0 : Int), (0 : Int), ())) _ = _
      rw [rcnt_loop b hl]
      simp only [Option.bind_some]
      rcases nrm_cases (cntF_nrm b.2.2.2.2.2.2.1 0 0) with h | h
      · rw [ne_thn h, h]
        rfl
      · rw [h, thn_z]
        change Option.bind (lim ref21_blocks_l28_step (b, zF, ard b, (0 : Int), ())) _ = _
        rw [rblk_loop b hs hr hl hl2]
        simp only [Option.bind_some]
        rcases nrm_cases (ffi_nrm (blkG b) b.2.2.2.2.2.2.1 0) with h' | h'
        · rw [h']; rfl
        · rw [h']; rfl
end
/-- What is wrong with a body. -/
def chk (b : V_api_Body) : Flt := thn (hF b) (thn (tF b) (bF b))
/-- Sizes that keep within what is counted. -/
structure SmallB (b : V_api_Body) : Prop where
  bnd : b.2.2.1.length ≤ 200000000
  ty : TySm b.2.2.2.1
  loc : b.2.2.2.1.length ≤ 200000000
  ret : b.2.2.2.2.1.length ≤ 1099999
  sig : b.2.2.2.2.2.1.length ≤ 200000000
  blk : b.2.2.2.2.2.2.1.length ≤ 200000000
  stm : ∀ x ∈ b.2.2.2.2.2.2.1, x.1.length ≤ 200000000
theorem Check_eq (b : V_api_Body) (h : SmallB b) : valid_Check_p0 (b, (), ()) = some (.inl (chk b, ())) := by
  unfold valid_Check_p0
  simp only
  change Option.bind (valid_checker_head_p0 (mkC b zF, ())) _ = _
  rw [head_eq b h.bnd]
  simp only [Option.bind_some, out1_inl]
  change Option.bind (valid_checker_types_p0 (mkC b (hF b), ())) _ = _
  rw [types_eq b _ (hF_nrm b) h.ty h.loc h.sig]
  simp only [Option.bind_some, out1_inl]
  change Option.bind (valid_checker_blocks_p0 (mkC b (thn (hF b) (tF b)), ())) _ = _
  rw [blocks_eq b h.ty h.ret h.blk h.stm _ (thn_nrm (tF_nrm b)), thn_thn]
  rfl
theorem OK_eq (b : V_api_Body) (h : SmallB b) : valid_OK (b, ()) = some ((chk b).1 == 0, ()) := by
  unfold valid_OK
  simp only
  change Option.bind (valid_Check_p0 (b, (), ())) _ = _
  rw [Check_eq b h]
  rfl
theorem rCheckB_eq (b : V_api_Body) (h : SmallB b) : ref21_Check (b, ()) = some (chk b, ()) := by
  unfold ref21_Check chk
  change Option.bind (ref21_head (b, ())) _ = _
  rw [rhead_eq b h.bnd]
  simp only [Option.bind_some]
  rcases nrm_cases (hF_nrm b) with h1 | h1
  · rw [ne_thn h1, h1]
    rfl
  · rw [h1, thn_z]
    change Option.bind (ref21_types (b, ())) _ = _
    rw [rtypes_eq b h.ty h.loc h.sig]
    simp only [Option.bind_some]
    rcases nrm_cases (tF_nrm b) with h2 | h2
    · rw [ne_thn h2, h2]
      rfl
    · rw [h2, thn_z]
      change Option.bind (ref21_blocks (b, ())) _ = _
      rw [rblocks_eq b h.ty h.ret h.blk h.stm]
      rfl
theorem rOK_eq (b : V_api_Body) (h : SmallB b) : ref21_OK (b, ()) = some ((chk b).1 == 0, ()) := by
  unfold ref21_OK
  change Option.bind (ref21_Check (b, ())) _ = _
  rw [rCheckB_eq b h]
  rfl
end Go.XD


/- Plain law of the package point against the document's answer. -/
namespace Go.XD

/-! ### Small bodies -/
theorem few_eq (l : V_api_Type) (n : Int) : ref15_Few (l, n, ()) = some (decide ((l.1.length : Int) ≤ n), ()) := rfl
def sfw (s : V_api_Sig) : Bool := bif !(decide ((s.2.1.length : Int) > 20) || decide ((s.2.2.1.length : Int) > 20)) then (bif !(decide ((s.2.2.2.1.length : Int) ≤ 20)) then false else !(s.2.2.1.any fun t => !(decide ((t.1.length : Int) ≤ 20)))) else false
theorem sfew_eq (s : V_api_Sig) (hl : s.2.2.1.length ≤ 140737488355328) : ref17_Few (s, ()) = some (sfw s, ()) := by
  obtain ⟨p, bs, ags, ret, ⟨⟩⟩ := s
  simp only at hl
  have l1 := lim_any (step := ref17_Few_l8_step) ags (fun t => !(decide ((t.1.length : Int) ≤ 20))) (fun i => ((p, bs, ags, ret, ()), (i : Int), ())) (yes := .inl (false, (p, bs, ags, ret, ()), ())) (no := .inr (.inl ((p, bs, ags, ret, ()), ()))) (fun g i hi => by
    unfold ref17_Few_l8_step
    simp only [dlt hi, cond_true, inB_nat hi, ck_true, rdL_nat t_api_Type ags hi, few_eq, Option.bind_some, wrap_succ (show i < 9223372036854775807 by omega)]) (fun g => by
    unfold ref17_Few_l8_step
    simp only [dge (Nat.lt_irrefl _), cond_false])
  simp only [Int.natCast_zero] at l1
  unfold ref17_Few sfw
  simp only [few_eq, Option.bind_some, cond_or]
  cases !(decide ((bs.length : Int) > 20) || decide ((ags.length : Int) > 20)) with
  | false => rfl
  | true =>
    simp only [cond_true]
    cases !(decide ((ret.length : Int) ≤ 20)) with
    | true => rfl
    | false =>
      simp only [cond_false]
      rw [show lim ref17_Few_l8_step ((p, bs, ags, ret, ()), (0 : Int), ()) = _ from l1]
      cases ags.any (fun t => !(decide ((t.1.length : Int) ≤ 20))) <;> rfl
/-- A small body. -/
structure Sml (b : V_api_Body) : Prop where
  bnd : b.2.2.1.length ≤ 20
  loc : b.2.2.2.1.length ≤ 10
  ty : ∀ t ∈ b.2.2.2.1, t.1.length ≤ 20
  ret : b.2.2.2.2.1.length ≤ 20
  sig : b.2.2.2.2.2.1.length ≤ 4
  blk : b.2.2.2.2.2.2.1.length ≤ 8
  stm : (b.2.2.2.2.2.2.1.map fun x => x.1.length).sum ≤ 24
  arg : ∀ x ∈ b.2.2.2.2.2.2.1, x.2.2.2.2.2.1.length ≤ 20
theorem Sml.stm1 {b : V_api_Body} (h : Sml b) : ∀ x ∈ b.2.2.2.2.2.2.1, x.1.length ≤ 24 := fun x hx => by
  have h1 := h.stm
  have : ∀ l : List V_api_Block, x ∈ l → x.1.length ≤ (l.map fun x => x.1.length).sum := fun l => by
    induction l with
    | nil => intro h; cases h
    | cons y l ih =>
      intro h
      simp only [List.map_cons, List.sum_cons]
      rcases List.mem_cons.1 h with rfl | h
      · omega
      · have := ih h; omega
  exact Nat.le_trans (this _ hx) h1
theorem Sml.small {b : V_api_Body} (h : Sml b) : SmallB b :=
  ⟨Nat.le_trans h.bnd (by omega), fun t ht => Nat.le_trans (h.ty t ht) (by omega), Nat.le_trans h.loc (by omega), Nat.le_trans h.ret (by omega), Nat.le_trans h.sig (by omega), Nat.le_trans h.blk (by omega), fun x hx => Nat.le_trans (h.stm1 x hx) (by omega)⟩
theorem sum_loop : ∀ (l : List V_api_Block), (∀ x ∈ l, x.1.length ≤ 140737488355328) → (l.map fun x => x.1.length).sum ≤ l.length * 140737488355328
  | [], _ => by simp
  | x :: l, h => by
    have h1 := h x List.mem_cons_self
    have h2 := sum_loop l (fun y hy => h y (List.mem_cons_of_mem _ hy))
    simp only [List.map_cons, List.sum_cons, List.length_cons, Nat.succ_mul]
    omega
theorem Small_eq (b : V_api_Body) (hs : ∀ x ∈ b.2.2.2.2.2.2.1, x.1.length ≤ 140737488355328) (hg : ∀ s ∈ b.2.2.2.2.2.1, s.2.2.1.length ≤ 140737488355328) : ∃ c, ref20_Small (b, ()) = some (c, ()) ∧ (c = true → Sml b) := by
  obtain ⟨u, r, bs, ls, ret, sgs, bks, ⟨⟩⟩ := b
  simp only at hs hg
  unfold ref20_Small
  simp only [few_eq, Option.bind_some, cond_or]
  cases h0 : !(decide ((bs.length : Int) > 20) || decide ((ls.length : Int) > 10) || decide ((sgs.length : Int) > 4) || decide ((bks.length : Int) > 8)) with
  | false => exact ⟨_, rfl, fun e => by cases e⟩
  | true =>
    simp only [Bool.not_eq_true', Bool.or_eq_false_iff, decide_eq_false_iff_not] at h0
    obtain ⟨⟨⟨g1, g2⟩, g3⟩, g4⟩ := h0
    simp only [cond_true]
    cases h1 : !(decide ((ret.length : Int) ≤ 20)) with
    | true => exact ⟨_, rfl, fun e => by cases e⟩
    | false =>
      have hret : ret.length ≤ 20 := by
        have : decide ((ret.length : Int) ≤ 20) = true := by simpa using h1
        have := of_decide_eq_true this
        omega
      simp only [cond_false]
      have l1 := lim_any (step := ref20_Small_l8_step) ls (fun t => !(decide ((t.1.length : Int) ≤ 20))) (fun i => ((u, r, bs, ls, ret, sgs, bks, ()), (i : Int), ())) (yes := .inl (false, (u, r, bs, ls, ret, sgs, bks, ()), ())) (no := .inr (.inl ((u, r, bs, ls, ret, sgs, bks, ()), ()))) (fun g i hi => by
        unfold ref20_Small_l8_step
        simp only [dlt hi, cond_true, inB_nat hi, ck_true, rdL_nat t_api_Type ls hi, few_eq, Option.bind_some, wrap_succ (show i < 9223372036854775807 by omega)]) (fun g => by
        unfold ref20_Small_l8_step
        simp only [dge (Nat.lt_irrefl _), cond_false])
      rw [show lim ref20_Small_l8_step ((u, r, bs, ls, ret, sgs, bks, ()), (0 : Int), ()) = _ from l1]
      cases h2 : ls.any (fun t => !(decide ((t.1.length : Int) ≤ 20))) with
      | true => exact ⟨_, rfl, fun e => by cases e⟩
      | false =>
        have hty : ∀ t ∈ ls, t.1.length ≤ 20 := fun t ht => by
          have := List.any_eq_false.1 h2 t ht
          have h3 : decide ((t.1.length : Int) ≤ 20) = true := by simpa using this
          have := of_decide_eq_true h3
          omega
        simp only [cond_false, Option.bind_some, out2_inr]
        have l2 : ∃ y, lim ref20_Small_l18_step ((u, r, bs, ls, ret, sgs, bks, ()), (0 : Int), ()) = some (bif y then .inl (false, (u, r, bs, ls, ret, sgs, bks, ()), ()) else .inr (.inl ((u, r, bs, ls, ret, sgs, bks, ()), ()))) := by
          have l := lim_any (step := ref20_Small_l18_step) sgs (fun s => !(sfw s)) (fun i => ((u, r, bs, ls, ret, sgs, bks, ()), (i : Int), ())) (yes := .inl (false, (u, r, bs, ls, ret, sgs, bks, ()), ())) (no := .inr (.inl ((u, r, bs, ls, ret, sgs, bks, ()), ()))) (fun g i hi => by
            have hc := sfew_eq sgs[i] (hg _ (List.getElem_mem hi))
            unfold ref20_Small_l18_step
            simp only [dlt hi, cond_true, inB_nat hi, ck_true, rdL_nat t_api_Sig sgs hi, wrap_succ (show i < 9223372036854775807 by omega)]
            change Option.bind (ref17_Few (sgs[i], ())) _ = _
            rw [hc]
            rfl) (fun g => by
            unfold ref20_Small_l18_step
            simp only [dge (Nat.lt_irrefl _), cond_false])
          exact ⟨_, l⟩
        obtain ⟨y, hy⟩ := l2
        rw [hy]
        cases y with
        | true => exact ⟨_, rfl, fun e => by cases e⟩
        | false =>
          simp only [cond_false, Option.bind_some, out2_inr]
          have l3 := lim_foldE (step := ref20_Small_l30_step) bks (fun (_ : Nat) (n : Int) (x : V_api_Block) => bif decide ((x.2.2.2.2.1.length : Int) > 20) || decide ((x.2.2.2.2.2.1.length : Int) > 20) || decide ((x.2.2.2.2.2.2.1.length : Int) > 20) then Sum.inl () else .inr (n + (x.1.length : Int))) (fun n i => ((u, r, bs, ls, ret, sgs, bks, ()), n, (i : Int), ())) (fun _ => .inl (false, (u, r, bs, ls, ret, sgs, bks, ()), ())) (fun n => .inr (.inl (n, (u, r, bs, ls, ret, sgs, bks, ()), ()))) (fun i n => n = (((bks.take i).map fun x => x.1.length).sum : Nat)) (fun g i n hi hinv => by
            have h5 := sum_loop (bks.take (i + 1)) (fun x hx => hs x (List.mem_of_mem_take hx))
            have h6 : (bks.take (i + 1)).length * 140737488355328 ≤ 8 * 140737488355328 := Nat.mul_le_mul_right _ (by rw [List.length_take]; omega)
            rw [take_snoc hi, List.map_append, List.sum_append] at h5
            simp only [List.map_cons, List.map_nil, List.sum_cons, List.sum_nil, Nat.add_zero] at h5
            rw [take_snoc hi] at h6
            unfold ref20_Small_l30_step
            simp only [dlt hi, cond_true, inB_nat hi, ck_true, rdL_nat t_api_Block bks hi, cond_or, wrap_succ (show i < 9223372036854775807 by omega)]
            rw [wrap64 (by omega) (by omega)]
            cases decide ((bks[i].2.2.2.2.1.length : Int) > 20) || decide ((bks[i].2.2.2.2.2.1.length : Int) > 20) || decide ((bks[i].2.2.2.2.2.2.1.length : Int) > 20) <;> rfl) (fun i n hi hinv n' hn' => by
            cases hc : decide ((bks[i].2.2.2.2.1.length : Int) > 20) || decide ((bks[i].2.2.2.2.2.1.length : Int) > 20) || decide ((bks[i].2.2.2.2.2.2.1.length : Int) > 20) with
            | true => rw [hc] at hn'; cases hn'
            | false =>
              rw [hc] at hn'
              simp only [cond_false, Sum.inr.injEq] at hn'
              rw [take_snoc hi, List.map_append, List.sum_append, ← hn', hinv]
              simp) (fun g n _ => by
            unfold ref20_Small_l30_step
            simp only [dge (Nat.lt_irrefl _), cond_false]) (s0 := (0 : Int)) (by simp)
          have hsum : ∀ (l : List V_api_Block) (i : Nat) (n n' : Int), foldE (fun (_ : Nat) (n : Int) (x : V_api_Block) => bif decide ((x.2.2.2.2.1.length : Int) > 20) || decide ((x.2.2.2.2.2.1.length : Int) > 20) || decide ((x.2.2.2.2.2.2.1.length : Int) > 20) then Sum.inl () else .inr (n + (x.1.length : Int))) i n l = .inr n' → n' = n + (((l.map fun x => x.1.length).sum : Nat) : Int) ∧ ∀ x ∈ l, x.2.2.2.2.2.1.length ≤ 20 := fun l => by
            induction l with
            | nil => intro i n n' h; simp only [foldE, Sum.inr.injEq] at h; exact ⟨by simp [h], fun x hx => by cases hx⟩
            | cons x l ih =>
              intro i n n' h
              simp only [foldE] at h
              cases hc : decide ((x.2.2.2.2.1.length : Int) > 20) || decide ((x.2.2.2.2.2.1.length : Int) > 20) || decide ((x.2.2.2.2.2.2.1.length : Int) > 20) with
              | true => rw [hc] at h; cases h
              | false =>
                rw [hc] at h
                obtain ⟨h7, h8⟩ := ih _ _ _ h
                refine ⟨by simp only [List.map_cons, List.sum_cons]; omega, fun y hy => ?_⟩
                rcases List.mem_cons.1 hy with rfl | hy
                · simp only [Bool.or_eq_false_iff, decide_eq_false_iff_not] at hc
                  omega
                · exact h8 y hy
          rw [show lim ref20_Small_l30_step ((u, r, bs, ls, ret, sgs, bks, ()), (0 : Int), (0 : Int), ()) = _ from l3]
          cases hf : foldE (fun (_ : Nat) (n : Int) (x : V_api_Block) => bif decide ((x.2.2.2.2.1.length : Int) > 20) || decide ((x.2.2.2.2.2.1.length : Int) > 20) || decide ((x.2.2.2.2.2.2.1.length : Int) > 20) then Sum.inl () else .inr (n + (x.1.length : Int))) 0 0 bks with
          | inl _ => exact ⟨_, rfl, fun e => by cases e⟩
          | inr n =>
            obtain ⟨hn, hag⟩ := hsum bks 0 0 n hf
            refine ⟨_, rfl, fun e => ⟨by simp only; omega, by simp only; omega, hty, hret, by simp only; omega, by simp only; omega, ?_, hag⟩⟩
            have := of_decide_eq_true e
            simp only
            omega
end Go.XD


