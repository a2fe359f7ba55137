/- For every input the law TablePlays returns true, and its arguments read as they did: no condition. -/
import Derived.Test.YtnkbpdcohkhkjaaRows
import Derived.JoinedOf
import Derived.Test.YtnkbpdcohkhkjaaHe
import Derived.Test.YtnkbpdcohkhkjaaTablePlaysG
set_option linter.unusedVariables false
set_option linter.unusedSimpArgs false
set_option linter.unusedSectionVars false
set_option linter.unnecessarySimpa false
set_option linter.deprecated false
set_option maxRecDepth 100000
/- Plain words: tables of whole numbers, loops that count up. -/
namespace Go.XD

/-- A loop whose rounds are told by their number. -/
theorem lim_up {A B : Type} {step : (A → Option B) → A → Option B} {y : B} (st : Nat → A) (n : Nat) (h1 : ∀ g i, i < n → step g (st i) = g (st (i + 1))) (h2 : ∀ g, step g (st n) = some y) : lim step (st 0) = some y := by
  have key : ∀ d i, i + d = n → ∀ k, d + 1 ≤ k → iter step k (st i) = some y := by
    intro d
    induction d with
    | zero =>
      intro i hi k hk
      cases k with
      | zero => omega
      | succ k =>
        simp only [iter]
        rw [show i = n by omega]
        exact h2 _
    | succ d ih =>
      intro i hi k hk
      cases k with
      | zero => omega
      | succ k =>
        simp only [iter]
        rw [h1 _ i (by omega)]
        exact ih (i + 1) (by omega) k (by omega)
  exact lim_eq (n + 1) (fun k hk => key n 0 (by omega) k hk)

theorem wrap32 {n : Int} (h1 : -2147483648 ≤ n) (h2 : n ≤ 2147483647) : IntKind.i32.wrap n = n := by
  show (if (true && decide (n % (4294967296 : Int) ≥ 2147483648)) = true then n % (4294967296 : Int) - 4294967296 else n % (4294967296 : Int)) = n
  simp only [Bool.true_and, decide_eq_true_eq]
  split <;> omega

/-- A table by a function. -/
def tab (m : Nat) (g : Nat → Int) : List Int := (List.range m).map g
@[simp] theorem tab_len (m : Nat) (g : Nat → Int) : (tab m g).length = m := by simp [tab]
theorem tab_get {m k : Nat} {g : Nat → Int} {d : Int} (h : k < m) : (tab m g).getD k d = g k := by
  simp [tab, List.getD_eq_getElem?_getD, h]
theorem tab_at {m k : Nat} {g : Nat → Int} (h : k < (tab m g).length) : (tab m g)[k] = g k := by simp [tab]
theorem tab_ext {m : Nat} {g g' : Nat → Int} (h : ∀ k, k < m → g k = g' k) : tab m g = tab m g' := by
  unfold tab
  exact List.map_congr_left fun k hk => h k (List.mem_range.1 hk)
theorem tab_set {m k : Nat} {g g' : Nat → Int} {v : Int} (hv : g' k = v) (h : ∀ j, j ≠ k → g' j = g j) : (tab m g).set k v = tab m g' := by
  apply List.ext_getElem
  · simp
  · intro i h1 h2
    rw [List.getElem_set, tab_at, tab_at]
    split
    · rename_i e; rw [← e, hv]
    · rename_i e; exact (h i (Ne.symm e)).symm
theorem tab_rep (m : Nat) (v : Int) : List.replicate m v = tab m fun _ => v := by
  apply List.ext_getElem
  · simp
  · intro i h1 h2
    rw [List.getElem_replicate, tab_at]
theorem tab_of (l : List Int) : l = tab l.length fun k => l.getD k 0 := by
  apply List.ext_getElem
  · simp
  · intro i h1 h2
    rw [tab_at, List.getD_eq_getElem?_getD, List.getElem?_eq_getElem h1]
    rfl
theorem tab_take {m k : Nat} {g : Nat → Int} (h : k ≤ m) : (tab m g).take k = tab k g := by
  apply List.ext_getElem
  · simp; omega
  · intro i h1 h2
    rw [List.getElem_take, tab_at, tab_at]
theorem tab_drop {m k : Nat} {g : Nat → Int} : (tab m g).drop k = tab (m - k) fun j => g (k + j) := by
  apply List.ext_getElem
  · simp
  · intro i h1 h2
    rw [List.getElem_drop, tab_at, tab_at]

theorem rdL_tab {q : IntKind} {m k : Nat} {g : Nat → Int} (h : k < m) : rdL (.int q) (tab m g) (k : Int) = g k := by
  unfold rdL
  rw [Int.toNat_natCast]
  exact tab_get h

/-! ### Counting -/
section
variable {α : Type}
theorem countP_take_succ {p : α → Bool} {l : List α} {i : Nat} (h : i < l.length) : (l.take (i + 1)).countP p = (l.take i).countP p + (if p l[i] then 1 else 0) := by
  rw [take_snoc h, List.countP_append, List.countP_singleton]
theorem countP_take_le {p : α → Bool} {l : List α} {i j : Nat} (h : i ≤ j) : (l.take i).countP p ≤ (l.take j).countP p := by
  have : (l.take i).Sublist (l.take j) := by
    rw [show l.take i = (l.take j).take i from by rw [List.take_take, Nat.min_eq_left h]]
    exact List.take_sublist _ _
  exact this.countP_le
theorem countP_take_len {p : α → Bool} {l : List α} {i : Nat} : (l.take i).countP p ≤ l.countP p := (List.take_sublist _ _).countP_le
/-- The k-th of the numbers that fit: just k fit ahead of it. -/
theorem range_sel {p : Nat → Bool} : ∀ {m k : Nat} (h : k < ((List.range m).filter p).length), p (((List.range m).filter p)[k]) = true ∧ ((List.range m).filter p)[k] < m ∧ ((List.range (((List.range m).filter p)[k])).filter p).length = k
  | 0, k, h => by simp at h
  | m + 1, k, h => by
    have e : (List.range (m + 1)).filter p = (List.range m).filter p ++ (if p m then [m] else []) := by
      rw [List.range_succ, List.filter_append]
      simp [List.filter_cons]
    by_cases hk : k < ((List.range m).filter p).length
    · have ih := range_sel (p := p) hk
      have e2 : ((List.range (m + 1)).filter p)[k] = ((List.range m).filter p)[k] := by
        simp only [e]
        rw [List.getElem_append_left hk]
      rw [e2]
      exact ⟨ih.1, by omega, ih.2.2⟩
    · have hp : p m = true := by
        cases hpm : p m with
        | true => rfl
        | false =>
          rw [e, hpm] at h
          simp at h
          omega
      have hk' : k = ((List.range m).filter p).length := by
        rw [e, hp] at h
        simp at h
        omega
      have e2 : ((List.range (m + 1)).filter p)[k] = m := by
        simp only [e, hp, if_true]
        rw [List.getElem_append_right (by omega)]
        simp
      rw [e2]
      exact ⟨hp, by omega, hk'.symm⟩
theorem countP_range (d : α) {p : α → Bool} {l : List α} : ∀ {i : Nat}, i ≤ l.length → (l.take i).countP p = ((List.range i).filter fun j => p (l.getD j d)).length
  | 0, _ => by simp
  | i + 1, h => by
    rw [countP_take_succ (by omega), countP_range d (by omega), List.range_succ, List.filter_append, List.length_append]
    congr 1
    have : l.getD i d = l[i] := by simp [List.getD_eq_getElem?_getD, show i < l.length by omega]
    simp only [List.filter_cons, List.filter_nil]
    rw [this]
    split <;> simp
end
theorem lim_step {A B : Type} {step : (A → Option B) → A → Option B} {x x' : A} (h : ∀ g, step g x = g x') : lim step x = lim step x' := by
  have hk : ∀ k, iter step (k + 1) x = iter step k x' := fun k => by simp only [iter]; exact h _
  have e : ∀ y, (∃ m, ∀ k, m ≤ k → iter step k x = some y) ↔ (∃ m, ∀ k, m ≤ k → iter step k x' = some y) := fun y => by
    constructor
    · rintro ⟨m, hm⟩
      exact ⟨m, fun k hk' => by rw [← hk]; exact hm (k + 1) (by omega)⟩
    · rintro ⟨m, hm⟩
      refine ⟨m + 1, fun k hk' => ?_⟩
      obtain ⟨j, rfl⟩ : ∃ j, k = j + 1 := ⟨k - 1, by omega⟩
      rw [hk]
      exact hm j (by omega)
  cases h1 : lim step x with
  | some y =>
    unfold lim at h1
    split at h1
    · rename_i hh
      obtain ⟨m, hm⟩ := (e _).1 hh.choose_spec
      simp only [Option.some.injEq] at h1
      rw [← h1]
      exact (lim_eq m hm).symm
    · cases h1
  | none =>
    cases h2 : lim step x' with
    | none => rfl
    | some y =>
      unfold lim at h2
      split at h2
      · rename_i hh
        obtain ⟨m, hm⟩ := (e _).2 hh.choose_spec
        rw [lim_eq m hm] at h1
        cases h1
      · cases h2
theorem lim_end {A B : Type} {step : (A → Option B) → A → Option B} {x : A} {y : B} (h : ∀ g, step g x = some y) : lim step x = some y :=
  lim_eq 1 fun k hk => by
    obtain ⟨j, rfl⟩ : ∃ j, k = j + 1 := ⟨k - 1, by omega⟩
    simp only [iter]
    exact h _
end Go.XD


/- Plain words: loops that fold, and may end early. -/
namespace Go.XD

/-- A fold over a list, with each one's place, that may end early. -/
def foldE {S α Y : Type} (f : Nat → S → α → Y ⊕ S) : Nat → S → List α → Y ⊕ S
  | _, s, [] => .inr s
  | i, s, a :: l => match f i s a with
    | .inl y => .inl y
    | .inr s' => foldE f (i + 1) s' l
theorem foldE_drop {S α Y : Type} (f : Nat → S → α → Y ⊕ S) {l : List α} {i : Nat} (hi : i < l.length) (s : S) : foldE f i s (l.drop i) = match f i s l[i] with
    | .inl y => .inl y
    | .inr s' => foldE f (i + 1) s' (l.drop (i + 1)) := by
  rw [List.drop_eq_getElem_cons hi]
  rfl
theorem lim_foldE {A B S α Y : Type} {step : (A → Option B) → A → Option B} (l : List α) (f : Nat → S → α → Y ⊕ S) (pack : S → Nat → A) (yes : Y → B) (out : S → B) (Inv : Nat → S → Prop)
    (h1 : ∀ g i s (hi : i < l.length), Inv i s → step g (pack s i) = match f i s l[i] with
      | .inl y => some (yes y)
      | .inr s' => g (pack s' (i + 1)))
    (hI : ∀ i s (hi : i < l.length), Inv i s → ∀ s', f i s l[i] = .inr s' → Inv (i + 1) s')
    (h2 : ∀ g s, Inv l.length s → step g (pack s l.length) = some (out s)) {s0 : S} (h0 : Inv 0 s0) :
    lim step (pack s0 0) = some (match foldE f 0 s0 l with
      | .inl y => yes y
      | .inr s => out s) := by
  have key : ∀ d i s, i + d = l.length → Inv i s → ∀ k, d + 1 ≤ k → iter step k (pack s i) = some (match foldE f i s (l.drop i) with
      | .inl y => yes y
      | .inr s => out s) := by
    intro d
    induction d with
    | zero =>
      intro i s hi hinv k hk
      cases k with
      | zero => omega
      | succ k =>
        have : i = l.length := by omega
        subst this
        simp only [iter]
        rw [h2 _ s hinv, List.drop_length]
        rfl
    | succ d ih =>
      intro i s hi hinv k hk
      cases k with
      | zero => omega
      | succ k =>
        have hil : i < l.length := by omega
        simp only [iter]
        rw [h1 _ i s hil hinv, foldE_drop f hil]
        cases hf : f i s l[i] with
        | inl y => rfl
        | inr s' => exact ih (i + 1) s' (by omega) (hI i s hil hinv s' hf) k (by omega)
  refine lim_eq (l.length + 1) (fun k hk => ?_)
  have := key l.length 0 s0 (by omega) h0 k hk
  simpa using this
/-- The same, without an end ahead. -/
def foldI {S α : Type} (f : Nat → S → α → S) : Nat → S → List α → S
  | _, s, [] => s
  | i, s, a :: l => foldI f (i + 1) (f i s a) l
theorem lim_foldI {A B S α : Type} {step : (A → Option B) → A → Option B} (l : List α) (f : Nat → S → α → S) (pack : S → Nat → A) (out : S → B) (Inv : Nat → S → Prop)
    (h1 : ∀ g i s (hi : i < l.length), Inv i s → step g (pack s i) = g (pack (f i s l[i]) (i + 1)))
    (hI : ∀ i s (hi : i < l.length), Inv i s → Inv (i + 1) (f i s l[i]))
    (h2 : ∀ g s, Inv l.length s → step g (pack s l.length) = some (out s)) {s0 : S} (h0 : Inv 0 s0) :
    lim step (pack s0 0) = some (out (foldI f 0 s0 l)) := by
  have := lim_foldE (Y := Empty) (step := step) l (fun i s a => .inr (f i s a)) pack (fun y => nomatch y) out Inv h1 (fun i s hi hinv s' e => by
    simp only [Sum.inr.injEq] at e
    exact e ▸ hI i s hi hinv) h2 h0
  rw [this]
  have e : ∀ (l : List α) (i : Nat) (s : S), foldE (Y := Empty) (fun i s a => .inr (f i s a)) i s l = .inr (foldI f i s l) := fun l => by
    induction l with
    | nil => intro i s; rfl
    | cons a l ih => intro i s; simp only [foldE, foldI]; exact ih _ _
  rw [e]
/-- Is there one? -/
theorem lim_any {A B α : Type} {step : (A → Option B) → A → Option B} (l : List α) (p : α → Bool) (pack : Nat → A) {yes no : B}
    (h1 : ∀ g i (hi : i < l.length), step g (pack i) = bif p l[i] then some yes else g (pack (i + 1)))
    (h2 : ∀ g, step g (pack l.length) = some no) : lim step (pack 0) = some (bif l.any p then yes else no) := by
  have := lim_foldE (S := Unit) (Y := Unit) (step := step) l (fun i s a => bif p a then .inl () else .inr ()) (fun _ i => pack i) (fun _ => yes) (fun _ => no) (fun _ _ => True) (fun g i s hi _ => by
    rw [h1 g i hi]
    cases p l[i] <;> rfl) (fun _ _ _ _ _ _ => trivial) (fun g s _ => h2 g) (s0 := ()) trivial
  rw [this]
  have e : ∀ (l : List α) (i : Nat), foldE (S := Unit) (Y := Unit) (fun i s a => bif p a then .inl () else .inr ()) i () l = bif l.any p then .inl () else .inr () := fun l => by
    induction l with
    | nil => intro i; rfl
    | cons a l ih =>
      intro i
      simp only [foldE, List.any_cons]
      cases p a with
      | true => rfl
      | false => exact ih _
  rw [e]
  cases l.any p <;> rfl
end Go.XD


/- Plain law of table.Group. -/
namespace Go.XD

abbrev Pr := V_easementref08_Pair
/-- Counts are as many as groups, and small. -/
def CntOK (N i : Nat) (cs : List Int) : Prop := cs.length = N ∧ ∀ c ∈ cs, 0 ≤ c ∧ c ≤ i
def cnt1 (N : Nat) (cs : List Int) (p : Pr) : List Int := if 0 ≤ p.1 ∧ p.1 < (N : Int) then cs.set p.1.toNat (cs.getD p.1.toNat 0 + 1) else cs

theorem cnt1_ok {N i : Nat} {cs : List Int} (h : CntOK N i cs) (p : Pr) : CntOK N (i + 1) (cnt1 N cs p) := by
  unfold cnt1
  split
  · rename_i hp
    refine ⟨by simpa using h.1, fun c hc => ?_⟩
    rcases List.mem_or_eq_of_mem_set hc with h1 | rfl
    · have := h.2 c h1
      exact ⟨this.1, by have := this.2; omega⟩
    · have hl : p.1.toNat < cs.length := by rw [h.1]; omega
      have := h.2 _ (List.getElem_mem hl)
      rw [List.getD_eq_getElem?_getD, List.getElem?_eq_getElem hl, Option.getD_some]
      exact ⟨by omega, by omega⟩
  · exact ⟨h.1, fun c hc => ⟨(h.2 c hc).1, by have := (h.2 c hc).2; omega⟩⟩

theorem grp_cnt (l : List Pr) (N : Nat) (hl : l.length ≤ 60) (hN : N ≤ 100) :
    ∃ cs, CntOK N l.length cs ∧ lim table_Group_16_l10_step ((N : Int), List.replicate N (0 : Int), l, (l.length : Int), (0 : Int), ()) = some (.inl (cs, ())) := by
  have h := lim_foldI (step := table_Group_16_l10_step) l (fun _ s p => cnt1 N s p) (fun s i => ((N : Int), s, l, (l.length : Int), (i : Int), ())) (fun s => .inl (s, ())) (fun i s => CntOK N i s)
    (fun g i s hi hinv => by
      unfold table_Group_16_l10_step
      have e1 : decide ((i : Int) < (l.length : Int)) = true := by simpa using hi
      simp only [e1, cond_true, inB_nat hi, ck, rdL_nat t_easementref08_Pair l hi]
      have e2 : ref08_Pair_Key (l[i], ()) = some (l[i].1, ()) := rfl
      rw [e2]
      simp only [Option.bind_some]
      have e3 : IntKind.i64.wrap ((i : Int) + 1) = ((i + 1 : Nat) : Int) := wrap_succ (by omega)
      rw [e3]
      unfold table_Group_16_j77_v cnt1
      by_cases hp : 0 ≤ l[i].1 ∧ l[i].1 < (N : Int)
      · have hb : inB l[i].1 s.length = true := by rw [inB_iff, hinv.1]; exact hp
        have hk : l[i].1.toNat < s.length := by rw [hinv.1]; omega
        have hr := hinv.2 _ (List.getElem_mem hk)
        have hg : s.getD l[i].1.toNat (Ty.dflt (.int .i64)) = s[l[i].1.toNat] := by
          rw [List.getD_eq_getElem?_getD, List.getElem?_eq_getElem hk]; rfl
        have hg2 : s.getD l[i].1.toNat 0 = s[l[i].1.toNat] := by
          rw [List.getD_eq_getElem?_getD, List.getElem?_eq_getElem hk]; rfl
        have hw : IntKind.i64.wrap (s[l[i].1.toNat] + 1) = s[l[i].1.toNat] + 1 := wrap64 (by omega) (by omega)
        simp only [ge_iff_le, hp.1, hp.2, decide_true, cond_true, hb, ck, if_pos (And.intro hp.1 hp.2), Option.bind_some, out1]
        rw [hg, hg2, hw]
        simp only [and_self, if_true]
      · have hc : (cond (decide (l[i].1 ≥ (0 : Int))) (decide (l[i].1 < (N : Int))) false) = false := by
          by_cases h1 : 0 ≤ l[i].1
          · have h2 : ¬ l[i].1 < (N : Int) := fun h => hp ⟨h1, h⟩
            simp [h1, h2]
          · simp [h1]
        rw [hc]
        simp only [cond_false, if_neg hp, Option.bind_some, out1])
    (fun i s hi hinv => cnt1_ok hinv _)
    (fun g s hinv => by
      unfold table_Group_16_l10_step
      simp)
    (s0 := List.replicate N (0 : Int)) ⟨by simp, fun c hc => by
      have := List.eq_of_mem_replicate hc
      subst this
      omega⟩
  refine ⟨_, ?_, h⟩
  have key : ∀ (l' : List Pr) (i : Nat) (s : List Int), CntOK N i s → CntOK N (i + l'.length) (foldI (fun _ s p => cnt1 N s p) i s l') := fun l' => by
    induction l' with
    | nil => intro i s h; exact h
    | cons a l' ih =>
      intro i s h
      simp only [foldI, List.length_cons]
      have := ih (i + 1) _ (cnt1_ok h a)
      rwa [show i + (l'.length + 1) = i + 1 + l'.length from by omega]
  have := key l 0 (List.replicate N (0 : Int)) ⟨by simp, fun c hc => by
      have := List.eq_of_mem_replicate hc
      subst this
      omega⟩
  simpa using this

/-- Each group begins empty. -/
theorem grp_mk (N M : Nat) (hM : M ≤ 100) (cs : List Int) (hcs : CntOK N M cs) (hN : N ≤ 100) :
    lim table_Group_16_l26_step (List.replicate N ([] : List Pr), cs, (cs.length : Int), (0 : Int), ()) = some (.inl (List.replicate N ([] : List Pr), cs, ())) := by
  have hl := hcs.1
  have h := lim_foldI (step := table_Group_16_l26_step) cs (fun _ s c => s) (fun s i => (s, cs, (cs.length : Int), (i : Int), ())) (fun s => .inl (s, cs, ())) (fun i s => s = List.replicate N ([] : List Pr))
    (fun g i s hi hinv => by
      subst hinv
      unfold table_Group_16_l26_step
      have e1 : decide ((i : Int) < (cs.length : Int)) = true := by simpa using hi
      have e3 : IntKind.i64.wrap ((i : Int) + 1) = ((i + 1 : Nat) : Int) := wrap_succ (by omega)
      have hg : cs.getD (i : Int).toNat (Ty.dflt (.int .i64)) = cs[i] := by
        rw [Int.toNat_natCast, List.getD_eq_getElem?_getD, List.getElem?_eq_getElem hi]; rfl
      simp only [e1, cond_true, inB_nat hi, ck, e3]
      rw [hg]
      have hr := hcs.2 _ (List.getElem_mem hi)
      unfold table_Group_16_j113_v
      by_cases hp : cs[i] > 0
      · have hb : (decide (0 ≤ (0 : Int)) && decide ((0 : Int) ≤ cs[i]) && decide (cs[i] * ((19 : Nat) : Int) ≤ 35184372088832)) = true := by
          simp only [Bool.and_eq_true, decide_eq_true_eq]
          omega
        have hb2 : inB (i : Int) (List.replicate N ([] : List Pr)).length = true := inB_nat (by simp; omega)
        have hs : (List.replicate N ([] : List Pr)).set (i : Int).toNat (List.replicate (0 : Int).toNat (((0 : Int), (0 : Int), ()) : Pr)) = List.replicate N [] := by
          apply List.ext_getElem?
          intro j
          rw [List.getElem?_set]
          split
          · rename_i e
            subst e
            split
            · rename_i hlt
              rw [List.getElem?_eq_getElem hlt]
              simp
            · rename_i hlt
              rw [List.getElem?_eq_none (by omega)]
          · rfl
        simp only [hp, decide_true, cond_true, hb, ck, hb2, hs, Option.bind_some, out1]
      · simp only [hp, decide_false, cond_false, Option.bind_some, out1])
    (fun i s hi hinv => hinv)
    (fun g s hinv => by
      unfold table_Group_16_l26_step
      simp)
    (s0 := List.replicate N ([] : List Pr)) rfl
  rw [show ((0 : Nat) : Int) = 0 from rfl] at h
  rw [h]
  have e : ∀ (l' : List Int) (i : Nat) (s : List (List Pr)), foldI (fun _ s c => s) i s l' = s := fun l' => by
    induction l' with
    | nil => intro i s; rfl
    | cons a l' ih => intro i s; exact ih _ _
  rw [e]

/-- The groups of a list. -/
def grp (N : Nat) (l : List Pr) : List (List Pr) := (List.range N).map fun (k : Nat) => l.filter fun p => decide (p.1 = (k : Int))
def put1 (N : Nat) (s : List (List Pr)) (p : Pr) : List (List Pr) := if 0 ≤ p.1 ∧ p.1 < (N : Int) then s.set p.1.toNat (s.getD p.1.toNat [] ++ [p]) else s
theorem grp_put (N : Nat) (l : List Pr) (p : Pr) : put1 N (grp N l) p = grp N (l ++ [p]) := by
  unfold put1
  have hget : ∀ (l : List Pr) (k : Nat), k < N → (grp N l)[k]? = some (l.filter fun p => decide (p.1 = (k : Int))) := fun l k hk => by
    unfold grp
    simp [hk]
  have hlen : ∀ l : List Pr, (grp N l).length = N := fun l => by simp [grp]
  apply List.ext_getElem?
  intro j
  by_cases hj : j < N
  · rw [hget _ j hj, List.filter_append]
    split
    · rename_i hp
      rw [List.getElem?_set]
      by_cases e : p.1.toNat = j
      · rw [if_pos e, if_pos (by rw [hlen]; omega)]
        have hpj : p.1 = (j : Int) := by omega
        rw [e, List.getD_eq_getElem?_getD, hget _ j hj]
        simp [hpj]
      · rw [if_neg e, hget _ j hj]
        have hpj : ¬ p.1 = (j : Int) := by omega
        simp [hpj]
    · rename_i hp
      rw [hget _ j hj]
      have hpj : ¬ p.1 = (j : Int) := fun e => hp (by omega)
      simp [hpj]
  · rw [List.getElem?_eq_none (l := grp N (l ++ [p])) (by rw [hlen]; omega)]
    split
    · rw [List.getElem?_eq_none (by rw [List.length_set, hlen]; omega)]
    · rw [List.getElem?_eq_none (by rw [hlen]; omega)]

theorem grp_go (l : List Pr) (N : Nat) (hl : l.length ≤ 60) (hN : N ≤ 100) :
    lim table_Group_16_l38_step ((N : Int), List.replicate N ([] : List Pr), l, (l.length : Int), (0 : Int), ()) = some (.inl (grp N l, ())) := by
  have h0 : List.replicate N ([] : List Pr) = grp N [] := by
    unfold grp
    apply List.ext_getElem?
    intro j
    simp [List.getElem?_replicate]
    split
    · rename_i hj
      simp [hj]
    · rename_i hj
      rw [List.getElem?_eq_none (by simp; omega)]
      rfl
  have h := lim_foldI (step := table_Group_16_l38_step) l (fun _ s p => put1 N s p) (fun s i => ((N : Int), s, l, (l.length : Int), (i : Int), ())) (fun s => .inl (s, ())) (fun i s => s = grp N (l.take i))
    (fun g i s hi hinv => by
      subst hinv
      unfold table_Group_16_l38_step
      have e1 : decide ((i : Int) < (l.length : Int)) = true := by simpa using hi
      simp only [e1, cond_true, inB_nat hi, ck, rdL_nat t_easementref08_Pair l hi]
      have e2 : ref08_Pair_Key (l[i], ()) = some (l[i].1, ()) := rfl
      rw [e2]
      simp only [Option.bind_some]
      have e3 : IntKind.i64.wrap ((i : Int) + 1) = ((i + 1 : Nat) : Int) := wrap_succ (by omega)
      rw [e3]
      have hlen : (grp N (l.take i)).length = N := by simp [grp]
      unfold table_Group_16_j157_v put1
      by_cases hp : 0 ≤ l[i].1 ∧ l[i].1 < (N : Int)
      · have hb : inB l[i].1 (grp N (l.take i)).length = true := by rw [inB_iff, hlen]; exact hp
        have hroom : roomB ((grp N (l.take i)).getD l[i].1.toNat [] ++ [l[i]]).length 19 = true := by
          have hk : l[i].1.toNat < (grp N (l.take i)).length := by rw [hlen]; omega
          rw [List.getD_eq_getElem?_getD, List.getElem?_eq_getElem hk]
          have hle : (grp N (l.take i))[l[i].1.toNat].length ≤ 60 := by
            simp only [grp, List.getElem_map]
            refine Nat.le_trans (List.length_filter_le _ _) ?_
            rw [List.length_take]
            omega
          simp only [Option.getD_some, List.length_append, List.length_singleton]
          unfold roomB
          simp only [decide_eq_true_eq]
          omega
        have hnb : Nat.beq l[i].1.toNat l[i].1.toNat = true := Nat.beq_refl _
        simp only [ge_iff_le, hp.1, hp.2, decide_true, cond_true, hb, hroom, hnb, ck, Option.bind_some, out1, and_self, if_true]
      · have hc : (cond (decide (l[i].1 ≥ (0 : Int))) (decide (l[i].1 < (N : Int))) false) = false := by
          by_cases h1 : 0 ≤ l[i].1
          · have h2 : ¬ l[i].1 < (N : Int) := fun h => hp ⟨h1, h⟩
            simp [h1, h2]
          · simp [h1]
        rw [hc]
        simp only [cond_false, if_neg hp, Option.bind_some, out1])
    (fun i s hi hinv => by
      subst hinv
      rw [grp_put, List.take_succ_eq_append_getElem hi])
    (fun g s hinv => by
      unfold table_Group_16_l38_step
      simp)
    (s0 := List.replicate N ([] : List Pr)) (by rw [h0]; simp)
  rw [show ((0 : Nat) : Int) = 0 from rfl] at h
  rw [h, h0]
  have e : ∀ (l' : List Pr) (i : Nat) (m : List Pr), foldI (fun _ s p => put1 N s p) i (grp N m) l' = grp N (m ++ l') := fun l' => by
    induction l' with
    | nil => intro i m; simp [foldI]
    | cons a l' ih =>
      intro i m
      simp only [foldI]
      rw [grp_put, ih]
      simp
  rw [e]
  simp

theorem Group_eq (l : List Pr) (n : Int) (hl : l.length ≤ 60) (hn : n ≤ 100 ∨ n > 1048576) :
    table_Group_16 (l, n, ()) = some (if n < 0 ∨ n > 1048576 then [] else grp n.toNat l, ()) := by
  unfold table_Group_16
  by_cases h : n < 0 ∨ n > 1048576
  · have hc : (cond (decide (n < (0 : Int))) true (decide (n > (1048576 : Int)))) = true := by
      rcases h with h | h <;> simp [h]
    simp only [hc, cond_true, if_pos h]
  · have hc : (cond (decide (n < (0 : Int))) true (decide (n > (1048576 : Int)))) = false := by
      have h1 : ¬ n < 0 := fun e => h (.inl e)
      have h2 : ¬ n > 1048576 := fun e => h (.inr e)
      simp [h1, h2]
    obtain ⟨N, rfl⟩ := Int.eq_ofNat_of_zero_le (show 0 ≤ n by omega)
    have hN : N ≤ 100 := by omega
    have b1 : (decide (0 ≤ (N : Int)) && decide ((N : Int) ≤ (N : Int)) && decide ((N : Int) * ((10 : Nat) : Int) ≤ 35184372088832)) = true := by
      simp only [Bool.and_eq_true, decide_eq_true_eq]
      omega
    have b2 : (decide (0 ≤ (N : Int)) && decide ((N : Int) ≤ (N : Int)) && decide ((N : Int) * ((26 : Nat) : Int) ≤ 35184372088832)) = true := by
      simp only [Bool.and_eq_true, decide_eq_true_eq]
      omega
    obtain ⟨cs, h1, h2⟩ := grp_cnt l N hl hN
    simp only [hc, cond_false, if_neg h, b1, b2, ck, Int.toNat_natCast, h2, Option.bind_some, out1]
    rw [grp_mk N l.length (by omega) cs h1 hN]
    simp only [Option.bind_some, out1]
    rw [grp_go l N hl hN]
    simp only [Option.bind_some, out1, cond_true]
end Go.XD


/- Plain laws of maps. -/
namespace Go.XD

section
variable {K E : Type} {q : K → K → Bool}

/-- What a key has. -/
def mg (q : K → K → Bool) (z : E) (a : K) : List (K × E × Nat) → E
  | [] => z
  | x :: r => cond (q x.1 a) x.2.1 (mg q z a r)
def mu (q : K → K → Bool) (a : K) (v : E) (n : Nat) : List (K × E × Nat) → List (K × E × Nat)
  | [] => [(a, v, n)]
  | x :: r => cond (q x.1 a) ((x.1, v, x.2.2) :: r) (x :: mu q a v n r)
theorem mGet_mg {z : E} {a : K} {es : List (K × E × Nat)} : mGet q z a es = mg q z a es := by
  unfold mGet kIdx
  induction es with
  | nil => rfl
  | cons x r ih =>
    simp only [List.findIdx?_cons, mg]
    cases h : q x.1 a with
    | true => simp
    | false =>
      simp only [cond_false, Bool.false_eq_true, if_false]
      rw [← ih]
      cases List.findIdx? (fun x => q x.1 a) r with
      | none => rfl
      | some i => simp
theorem mUpd_mu {v : E} {a : K} {n : Nat} {es : List (K × E × Nat)} : mUpd q a v es n = mu q a v n es := by
  unfold mUpd kIdx
  induction es with
  | nil => rfl
  | cons x r ih =>
    simp only [List.findIdx?_cons, mu]
    cases h : q x.1 a with
    | true => simp
    | false =>
      simp only [cond_false, Bool.false_eq_true, if_false]
      rw [← ih]
      cases List.findIdx? (fun x => q x.1 a) r with
      | none => rfl
      | some i => simp
theorem mg_mu (hq : ∀ a b, q a b = true ↔ a = b) [DecidableEq K] {z v : E} {a b : K} {n : Nat} {es : List (K × E × Nat)} : mg q z b (mu q a v n es) = if a = b then v else mg q z b es := by
  induction es with
  | nil =>
    simp only [mu, mg]
    by_cases h : a = b
    · rw [if_pos h, (hq a b).2 h]; rfl
    · rw [if_neg h, show q a b = false from by rw [Bool.eq_false_iff]; exact fun e => h ((hq a b).1 e)]; rfl
  | cons x r ih =>
    simp only [mu]
    cases h : q x.1 a with
    | true =>
      have hxa := (hq _ _).1 h
      simp only [cond_true, mg]
      by_cases e : a = b
      · rw [if_pos e, show q x.1 b = true from (hq _ _).2 (hxa.trans e)]; rfl
      · rw [if_neg e, show q x.1 b = false from by rw [Bool.eq_false_iff]; exact fun k => e (hxa.symm.trans ((hq _ _).1 k))]
        rfl
    | false =>
      simp only [cond_false, mg]
      rw [ih]
      by_cases e : a = b
      · subst e
        rw [h, if_pos rfl]
        simp
      · rw [if_neg e, if_neg e]
/-- Births differ, and are past. -/
def Bs (es : List (K × E × Nat)) (n : Nat) : Prop := (es.map (·.2.2)).Nodup ∧ ∀ x ∈ es, x.2.2 < n
theorem bs_nil (n : Nat) : Bs ([] : List (K × E × Nat)) n := ⟨by simp, fun x hx => by cases hx⟩
theorem bs_upd {es : List (K × E × Nat)} {n : Nat} (h : Bs es n) (a : K) (v : E) : Bs (mUpd q a v es n) (mClk q a es n) := by
  unfold mUpd mClk kIdx
  cases hi : List.findIdx? (fun x => q x.1 a) es with
  | none =>
    simp only
    refine ⟨?_, fun x hx => ?_⟩
    · rw [List.map_append, List.nodup_append]
      refine ⟨h.1, by simp, fun x hx y hy e => ?_⟩
      obtain ⟨p, hp, rfl⟩ := List.mem_map.1 hx
      simp at hy
      have := h.2 p hp
      omega
    · rcases List.mem_append.1 hx with hx | hx
      · have := h.2 x hx; omega
      · simp at hx
        subst hx
        simp
  | some i =>
    simp only
    have hm : (es.modify i fun x => (x.1, v, x.2.2)).map (·.2.2) = es.map (·.2.2) := by
      apply List.ext_getElem?
      intro j
      simp only [List.getElem?_map, List.getElem?_modify]
      cases es[j]? with
      | none => rfl
      | some x => simp only [Option.map_eq_map, Option.map_some]; split <;> rfl
    refine ⟨by rw [hm]; exact h.1, fun x hx => ?_⟩
    have : x.2.2 ∈ es.map (·.2.2) := by rw [← hm]; exact List.mem_map_of_mem hx
    obtain ⟨p, hp, e⟩ := List.mem_map.1 this
    rw [← e]
    exact h.2 p hp
/-- To enter a key, and to store at its entry: the key takes the value. -/
theorem put_ent {es : List (K × E × Nat)} {n : Nat} (h : Bs es n) (z v : E) (a : K) : mPut (mBorn q z a es n) v (mEnt q z a es n) = mUpd q a v es n ∧ mHas (mBorn q z a es n) (mEnt q z a es n) = true := by
  unfold mBorn mEnt mUpd kIdx
  cases hi : List.findIdx? (fun x => q x.1 a) es with
  | none =>
    simp only
    have hf : List.findIdx? (fun x : K × E × Nat => decide (x.2.2 = n)) (es ++ [(a, z, n)]) = some es.length := by
      rw [List.findIdx?_append, List.findIdx?_eq_none_iff.2 (fun x hx => by have := h.2 x hx; simp; omega)]
      simp
    refine ⟨?_, ?_⟩
    · unfold mPut
      rw [hf]
      apply List.ext_getElem?
      intro j
      simp only [List.getElem?_modify]
      by_cases hj : j < es.length
      · rw [List.getElem?_append_left hj, List.getElem?_append_left hj]
        simp [show ¬ es.length = j from by omega]
      · rw [List.getElem?_append_right (by omega), List.getElem?_append_right (by omega)]
        by_cases e : j = es.length
        · subst e
          simp
        · rw [List.getElem?_eq_none (by simp; omega), List.getElem?_eq_none (by simp; omega)]
          rfl
    · unfold mHas
      simp
  | some i =>
    simp only
    have hl := (List.findIdx?_eq_some_iff_getElem.1 hi).1
    have hg : es.getD i (a, z, 0) = es[i] := by rw [List.getD_eq_getElem?_getD, List.getElem?_eq_getElem hl]; rfl
    rw [hg]
    refine ⟨?_, ?_⟩
    · unfold mPut
      rw [List.findIdx?_eq_some_iff_getElem.2 ⟨hl, by simp, fun j hj => ?_⟩]
      simp only [decide_eq_true_eq]
      intro e
      have := List.pairwise_iff_getElem.1 h.1 j i (by simp; omega) (by simpa using hl) hj
      simp at this
      exact this e
    · unfold mHas
      rw [List.any_eq_true]
      exact ⟨es[i], List.getElem_mem hl, by simp⟩
end
end Go.XD


/- Plain law of tables: TableGroups. -/
namespace Go.XD

section
variable {α : Type} [DecidableEq α]
/-- The first ones, of those up to a place. -/
def Fi (l : List α) : Nat → List α
  | 0 => []
  | i + 1 => match l[i]? with
    | some a => if a ∈ l.take i then Fi l i else Fi l i ++ [a]
    | none => Fi l i
theorem Fi_len (l : List α) : ∀ i, (Fi l i).length ≤ i
  | 0 => by simp [Fi]
  | i + 1 => by
    have := Fi_len l i
    simp only [Fi]
    split
    · split
      · omega
      · simp; omega
    · omega
def cn (l : List α) (i : Nat) (a : α) : Nat := (l.take i).countP fun b => decide (b = a)
theorem cn_succ {l : List α} {i : Nat} (hi : i < l.length) (a : α) : cn l (i + 1) a = cn l i a + (if l[i] = a then 1 else 0) := by
  unfold cn
  rw [List.take_succ_eq_append_getElem hi, List.countP_append]
  congr 1
  by_cases h : l[i] = a
  · simp [h]
  · simp [h]
theorem cn_le (l : List α) (i : Nat) (a : α) : cn l i a ≤ i := Nat.le_trans List.countP_le_length (by simp; omega)
theorem cn_zero {l : List α} {i : Nat} {a : α} : cn l i a = 0 ↔ a ∉ l.take i := by
  unfold cn
  rw [List.countP_eq_zero]
  constructor
  · intro h hm
    exact h a hm (by simp)
  · intro h b hb e
    simp at e
    exact h (e ▸ hb)
/-- What has been counted, up to a place. -/
def Mi (q : α → α → Bool) (l : List α) : Nat → List (α × Int × Nat) × Nat
  | 0 => ([], 0)
  | i + 1 => match l[i]? with
    | some a => (mUpd q a ((mGet q 0 a (Mi q l i).1) + 1) (Mi q l i).1 (Mi q l i).2, mClk q a (Mi q l i).1 (Mi q l i).2)
    | none => Mi q l i
theorem Mi_ok {q : α → α → Bool} (hq : ∀ a b, q a b = true ↔ a = b) (l : List α) : ∀ i, i ≤ l.length → Bs (Mi q l i).1 (Mi q l i).2 ∧ ∀ a, mGet q 0 a (Mi q l i).1 = (cn l i a : Int)
  | 0, _ => by
    refine ⟨bs_nil _, fun a => ?_⟩
    rw [mGet_mg]
    simp [Mi, mg, cn]
  | i + 1, h => by
    obtain ⟨h1, h2⟩ := Mi_ok hq l i (by omega)
    have hi : i < l.length := by omega
    simp only [Mi, List.getElem?_eq_getElem hi]
    refine ⟨bs_upd h1 _ _, fun a => ?_⟩
    rw [mGet_mg, mUpd_mu, mg_mu hq, cn_succ hi]
    by_cases e : l[i] = a
    · rw [if_pos e, if_pos e, h2, e]
      simp
    · rw [if_neg e, if_neg e, ← mGet_mg, h2]
      simp
theorem Fi_succ {l : List α} {i : Nat} (hi : i < l.length) : Fi l (i + 1) = if l[i] ∈ l.take i then Fi l i else Fi l i ++ [l[i]] := by
  simp only [Fi, List.getElem?_eq_getElem hi]
end
theorem Mi_succ {α : Type} {q : α → α → Bool} {l : List α} {i : Nat} (hi : i < l.length) : Mi q l (i + 1) = (mUpd q l[i] ((mGet q 0 l[i] (Mi q l i).1) + 1) (Mi q l i).1 (Mi q l i).2, mClk q l[i] (Mi q l i).1 (Mi q l i).2) := by
  simp only [Mi, List.getElem?_eq_getElem hi]
theorem Mi_next {α : Type} [DecidableEq α] {q : α → α → Bool} (hq : ∀ a b, q a b = true ↔ a = b) {l : List α} {i : Nat} (hi : i < l.length) : mGet q 0 l[i] (Mi q l (i + 1)).1 = (cn l i l[i] : Int) + 1 := by
  rw [(Mi_ok hq l (i + 1) (by omega)).2, cn_succ hi, if_pos rfl]
  omega

theorem eqT_Pr : ∀ a b : Pr, eqT t_easementref08_Pair a b = true ↔ a = b := fun a b => eqT_iff (t := t_easementref08_Pair) rfl a b
theorem Firsts_eq (l : List Pr) (hl : l.length ≤ 60) : table_Firsts_18 (l, ()) = some (Fi l l.length, ()) := by
  unfold table_Firsts_18
  have h := lim_up (step := table_Firsts_18_l8_step) (y := .inl (Fi l l.length, Mi (eqT t_easementref08_Pair) l l.length, ())) (fun i => (Fi l i, Mi (eqT t_easementref08_Pair) l i, l, (l.length : Int), (i : Int), ())) l.length
    (fun g i hi => by
      unfold table_Firsts_18_l8_step
      obtain ⟨h1, h2⟩ := Mi_ok eqT_Pr l i (by omega)
      simp only [dlt hi, cond_true, inB_nat hi, ck, rdL_nat t_easementref08_Pair l hi, (put_ent h1 0 0 l[i]).2, (put_ent h1 0 _ _).1]
      have hw : IntKind.i64.wrap (mGet (eqT t_easementref08_Pair) (0 : Int) l[i] (Mi (eqT t_easementref08_Pair) l i).1 + 1) = mGet (eqT t_easementref08_Pair) (0 : Int) l[i] (Mi (eqT t_easementref08_Pair) l i).1 + 1 := by
        rw [h2]
        have := cn_le l i l[i]
        exact wrap64 (by omega) (by omega)
      rw [hw, wrap_succ (by omega), ← Mi_succ hi]
      have hM := Mi_succ (q := eqT t_easementref08_Pair) hi
      have hn := Mi_next eqT_Pr hi
      rw [hM] at hn
      simp only at hn
      rw [hn]
      unfold table_Firsts_18_j47_v
      rw [Fi_succ hi]
      by_cases hm : l[i] ∈ l.take i
      · have hc : cn l i l[i] ≠ 0 := fun e => cn_zero.1 e hm
        have hb : ((cn l i l[i] : Int) + 1 == 1) = false := by
          rw [Bool.eq_false_iff]
          intro e
          simp at e
          omega
        simp only [hb, cond_false, Option.bind_some, out1, if_pos hm]
      · have hc : cn l i l[i] = 0 := cn_zero.2 hm
        have hr : roomB (Fi l i ++ [l[i]]).length 19 = true := roomB_ok (by
          have := Fi_len l i
          simp
          omega)
        rw [hc]
        simp only [show (((0 : Nat) : Int) + 1 == 1) = true from rfl, cond_true, hr, ck, Option.bind_some, out1, if_neg hm])
    (fun g => by
      unfold table_Firsts_18_l8_step
      simp)
  have e0 : (Fi l 0, Mi (eqT t_easementref08_Pair) l 0, l, (l.length : Int), ((0 : Nat) : Int), ()) = (([] : List Pr), (([] : List (Pr × Int × Nat)), 0), l, (l.length : Int), (0 : Int), ()) := rfl
  rw [e0] at h
  rw [h]
  rfl
theorem eqT_str : ∀ a b : ByteArray, eqT .str a b = true ↔ a = b := fun a b => eqT_iff (t := .str) rfl a b
theorem FirstsS_eq (l : List ByteArray) (hl : l.length ≤ 60) : table_Firsts_79 (l, ()) = some (Fi l l.length, ()) := by
  unfold table_Firsts_79
  have h := lim_up (step := table_Firsts_79_l8_step) (y := .inl (Fi l l.length, Mi (eqT .str) l l.length, ())) (fun i => (Fi l i, Mi (eqT .str) l i, l, (l.length : Int), (i : Int), ())) l.length
    (fun g i hi => by
      unfold table_Firsts_79_l8_step
      obtain ⟨h1, h2⟩ := Mi_ok eqT_str l i (by omega)
      simp only [dlt hi, cond_true, inB_nat hi, ck, rdL_nat .str l hi]
      have hw : IntKind.i64.wrap (mGet (eqT .str) (0 : Int) l[i] (Mi (eqT .str) l i).1 + 1) = mGet (eqT .str) (0 : Int) l[i] (Mi (eqT .str) l i).1 + 1 := by
        rw [h2]
        have := cn_le l i l[i]
        exact wrap64 (by omega) (by omega)
      rw [hw, wrap_succ (by omega), ← Mi_succ hi]
      have hM := Mi_succ (q := eqT .str) hi
      have hn := Mi_next eqT_str hi
      rw [hM] at hn
      simp only at hn
      rw [hn]
      unfold table_Firsts_79_j43_v
      rw [Fi_succ hi]
      by_cases hm : l[i] ∈ l.take i
      · have hc : cn l i l[i] ≠ 0 := fun e => cn_zero.1 e hm
        have hb : ((cn l i l[i] : Int) + 1 == 1) = false := by
          rw [Bool.eq_false_iff]
          intro e
          simp at e
          omega
        simp only [hb, cond_false, Option.bind_some, out1, if_pos hm]
      · have hc : cn l i l[i] = 0 := cn_zero.2 hm
        have hr : roomB (Fi l i ++ [l[i]]).length 18 = true := roomB_ok (by
          have := Fi_len l i
          simp
          omega)
        rw [hc]
        simp only [show (((0 : Nat) : Int) + 1 == 1) = true from rfl, cond_true, hr, ck, Option.bind_some, out1, if_neg hm])
    (fun g => by
      unfold table_Firsts_79_l8_step
      simp)
  have e0 : (Fi l 0, Mi (eqT .str) l 0, l, (l.length : Int), ((0 : Nat) : Int), ()) = (([] : List ByteArray), (([] : List (ByteArray × Int × Nat)), 0), l, (l.length : Int), (0 : Int), ()) := rfl
  rw [e0] at h
  rw [h]
  rfl
theorem prEq (a b : Pr) : ((a.1 == b.1) && ((a.2.1 == b.2.1) && true)) = decide (a = b) := by
  rw [Bool.eq_iff_iff]
  simp only [Bool.and_true, Bool.and_eq_true, beq_iff_eq, decide_eq_true_eq]
  exact ⟨fun h => Prod.ext h.1 (Prod.ext h.2 rfl), fun h => by subst h; exact ⟨rfl, rfl⟩⟩
theorem refFirsts_eq (l : List Pr) (hl : l.length ≤ 60) : ref08_Firsts (l, ()) = some (Fi l l.length, ()) := by
  unfold ref08_Firsts
  have h := lim_up (step := ref08_Firsts_l6_step) (y := .inl (Fi l l.length, ())) (fun i => (l, Fi l i, (i : Int), ())) l.length
    (fun g i hi => by
      unfold ref08_Firsts_l6_step
      have hin := lim_up (step := ref08_Firsts_l14_step) (y := .inl (decide (l[i] ∈ l.take i), ())) (fun k => (l, (i : Int), decide (l[i] ∈ l.take k), (k : Int), ())) i
        (fun g k hk => by
          unfold ref08_Firsts_l14_step
          have hkl : k < l.length := by omega
          simp only [dlt hk, cond_true, inB_nat hkl, inB_nat hi, Bool.true_or, ck, rdL_nat t_easementref08_Pair l hkl, rdL_nat t_easementref08_Pair l hi]
          rw [prEq, wrap_succ (by omega), List.take_succ_eq_append_getElem hkl]
          have e : (cond (decide (l[i] ∈ l.take k)) true (decide (l[k] = l[i]))) = decide (l[i] ∈ l.take k ++ [l[k]]) := by
            rw [cond_or, Bool.eq_iff_iff]
            simp only [Bool.or_eq_true, decide_eq_true_eq, List.mem_append, List.mem_singleton]
            exact ⟨fun h => h.imp id Eq.symm, fun h => h.imp id Eq.symm⟩
          rw [e])
        (fun g => by
          unfold ref08_Firsts_l14_step
          simp)
      have e0 : (l, (i : Int), decide (l[i] ∈ l.take 0), ((0 : Nat) : Int), ()) = (l, (i : Int), false, (0 : Int), ()) := by simp
      rw [e0] at hin
      simp only [dlt hi, cond_true, hin, Option.bind_some, out1]
      unfold ref08_Firsts_j65_v
      rw [Fi_succ hi]
      by_cases hm : l[i] ∈ l.take i
      · simp only [hm, decide_true, Bool.not_true, cond_false, Option.bind_some, out1, if_true]
        rw [wrap_succ (by omega)]
      · have hr : roomB (Fi l i ++ [l[i]]).length 19 = true := roomB_ok (by
          have := Fi_len l i
          simp
          omega)
        simp only [hm, decide_false, Bool.not_false, cond_true, inB_nat hi, ck, rdL_nat t_easementref08_Pair l hi, hr, Option.bind_some, out1, if_false]
        rw [wrap_succ (by omega)])
    (fun g => by
      unfold ref08_Firsts_l6_step
      simp)
  have e0 : (l, Fi l 0, ((0 : Nat) : Int), ()) = (l, ([] : List Pr), (0 : Int), ()) := rfl
  rw [e0] at h
  rw [h]
  rfl
theorem Same_self (l : List Pr) (hl : l.length ≤ 1000000) : ref08_Same (l, l, ()) = some (true, ()) := by
  unfold ref08_Same
  have h := lim_up (step := ref08_Same_l8_step) (y := .inr (.inl ())) (fun i => (l, l, (i : Int), ())) l.length
    (fun g i hi => by
      unfold ref08_Same_l8_step
      simp only [dlt hi, cond_true, inB_nat hi, ck, rdL_nat t_easementref08_Pair l hi]
      rw [prEq, wrap_succ (by omega)]
      simp)
    (fun g => by
      unfold ref08_Same_l8_step
      simp)
  rw [show ((0 : Nat) : Int) = 0 from rfl] at h
  simp only [bne_self_eq_false, cond_false, h, Option.bind_some, out2]
theorem refGroup_eq (l : List Pr) (k : Int) (hl : l.length ≤ 60) : ref08_Group (l, k, ()) = some (l.filter fun p => decide (p.1 = k), ()) := by
  unfold ref08_Group
  have h := lim_up (step := ref08_Group_l6_step) (y := .inl ((l.filter fun p => decide (p.1 = k)), ())) (fun i => (l, k, ((l.take i).filter fun p => decide (p.1 = k)), (i : Int), ())) l.length
    (fun g i hi => by
      unfold ref08_Group_l6_step
      simp only [dlt hi, cond_true, inB_nat hi, ck, rdL_nat t_easementref08_Pair l hi]
      unfold ref08_Group_j41_v
      rw [List.take_succ_eq_append_getElem hi, List.filter_append]
      by_cases hk : l[i].1 = k
      · have hr : roomB (((l.take i).filter fun p => decide (p.1 = k)) ++ [l[i]]).length 19 = true := roomB_ok (by
          have := List.length_filter_le (fun p : Pr => decide (p.1 = k)) (l.take i)
          have h2 : (l.take i).length ≤ 60 := by rw [List.length_take]; omega
          simp only [List.length_append, List.length_singleton]
          omega)
        simp only [beq_iff_eq, hk, BEq.rfl, cond_true, inB_nat hi, ck, rdL_nat t_easementref08_Pair l hi, hr, Option.bind_some, out1]
        rw [wrap_succ (by omega)]
        simp [hk]
      · have hb : (l[i].1 == k) = false := by simpa using hk
        simp only [hb, cond_false, Option.bind_some, out1]
        rw [wrap_succ (by omega)]
        simp [hk])
    (fun g => by
      unfold ref08_Group_l6_step
      simp)
  have e0 : (l, k, ((l.take 0).filter fun p => decide (p.1 = k)), ((0 : Nat) : Int), ()) = (l, k, ([] : List Pr), (0 : Int), ()) := rfl
  rw [e0] at h
  rw [h]
  rfl
theorem awake08 : law08_awake () = some (true, ()) := by
  unfold law08_awake
  rw [Group_eq _ _ (by simp) (by decide)]
  have e : (if (2 : Int) < 0 ∨ (2 : Int) > 1048576 then ([] : List (List Pr)) else grp (2 : Int).toNat [((1 : Int), (5 : Int), ()), ((0 : Int), (6 : Int), ()), ((1 : Int), (7 : Int), ())]) = [[((0 : Int), (6 : Int), ())], [((1 : Int), (5 : Int), ()), ((1 : Int), (7 : Int), ())]] := by
    rw [if_neg (by decide)]
    rfl
  rw [e]
  simp only [Option.bind_some]
  have e1 : rdL (.lst t_easementref08_Pair) [[((0 : Int), (6 : Int), ())], [((1 : Int), (5 : Int), ()), ((1 : Int), (7 : Int), ())]] (1 : Int) = [((1 : Int), (5 : Int), ()), ((1 : Int), (7 : Int), ())] := rfl
  have e2 : (((([[((0 : Int), (6 : Int), ())], [((1 : Int), (5 : Int), ()), ((1 : Int), (7 : Int), ())]] : List (List Pr)).length : Int)) == (2 : Int)) = true := rfl
  rw [e1, e2]
  rw [Same_self _ (by simp), FirstsS_eq _ (by simp)]
  have e3 : (Fi [(⟨#[97]⟩ : ByteArray), (⟨#[98]⟩ : ByteArray), (⟨#[97]⟩ : ByteArray)] 3).length = 2 := by decide
  simp only [Option.bind_some, cond_true, List.length_cons, List.length_nil, Nat.zero_add, Nat.reduceAdd]
  rw [e3]
  rfl
theorem tableGroups_true (x : List Pr × Int × Unit) : law08_TableGroups x = some (true, ()) := by
  obtain ⟨l, n, u⟩ := x
  unfold law08_TableGroups
  rw [awake08]
  by_cases hg : (l.length : Int) > 60 ∨ (n > 100 ∧ n ≤ 1048576)
  · have hc : (cond (decide ((l.length : Int) > (60 : Int))) true (cond (decide (n > (100 : Int))) (decide (n ≤ (1048576 : Int))) false)) = true := by
      rw [cond_or, cond_and]
      rcases hg with h | h
      · simp [h]
      · simp [h]
    simp only [hc, cond_true, Option.bind_some]
  · have hc : (cond (decide ((l.length : Int) > (60 : Int))) true (cond (decide (n > (100 : Int))) (decide (n ≤ (1048576 : Int))) false)) = false := by
      rw [cond_or, cond_and, Bool.eq_false_iff]
      intro e
      simp only [Bool.or_eq_true, Bool.and_eq_true, decide_eq_true_eq] at e
      exact hg e
    have hl : l.length ≤ 60 := by omega
    have hn : n ≤ 100 ∨ n > 1048576 := by omega
    have hF : (Fi l l.length).length ≤ 1000000 := by have := Fi_len l l.length; omega
    simp only [hc, cond_false]
    rw [Group_eq l n hl hn, Firsts_eq l hl, refFirsts_eq l hl]
    simp only [Option.bind_some]
    rw [Same_self _ hF]
    simp only [Option.bind_some, Bool.not_true, cond_false]
    by_cases h : n < 0 ∨ n > 1048576
    · have hc : (cond (decide (n < (0 : Int))) true (decide (n > (1048576 : Int)))) = true := by
        rcases h with h | h <;> simp [h]
      simp only [hc, cond_true, if_pos h]
      rfl
    · have hc : (cond (decide (n < (0 : Int))) true (decide (n > (1048576 : Int)))) = false := by
        have h1 : ¬ n < 0 := fun e => h (.inl e)
        have h2 : ¬ n > 1048576 := fun e => h (.inr e)
        simp [h1, h2]
      obtain ⟨N, rfl⟩ := Int.eq_ofNat_of_zero_le (show 0 ≤ n by omega)
      have hlen : (grp N l).length = N := by simp [grp]
      simp only [hc, cond_false, if_neg h, Int.toNat_natCast, hlen, bne_self_eq_false]
      have hlim := lim_up (step := law08_TableGroups_l22_step) (y := .inr (.inl ())) (fun i => (l, (N : Int), grp N l, (i : Int), ())) N
        (fun g i hi => by
          unfold law08_TableGroups_l22_step
          have hi' : i < (grp N l).length := by rw [hlen]; exact hi
          have hget : (grp N l)[i] = l.filter fun p => decide (p.1 = (i : Int)) := by simp [grp]
          simp only [dlt hi, cond_true, inB_nat hi', ck, rdL_nat (.lst t_easementref08_Pair) (grp N l) hi', refGroup_eq l _ hl, Option.bind_some, hget]
          rw [Same_self _ (by
            have := List.length_filter_le (fun p : Pr => decide (p.1 = (i : Int))) l
            omega), wrap_succ (by omega)]
          rfl)
        (fun g => by
          unfold law08_TableGroups_l22_step
          simp)
      rw [show ((0 : Nat) : Int) = 0 from rfl] at hlim
      rw [hlim]
      rfl
end Go.XD


/- Plain law of tables: TablePlays. -/
namespace Go.XD

/-- A table's pairs. -/
def prs (l : List Int) (h : List Bool) : List Pr := (upT l h l.length).map fun p => ((p.1 : Int), p.2, ())
def prM (l : List Int) (h : List Bool) (m : Nat) : List Pr := (upT l h m).map fun p => ((p.1 : Int), p.2, ())
theorem prM_yes {l : List Int} {h : List Bool} {k : Nat} (hk : h[k]?.getD false = true) : prM l h (k + 1) = prM l h k ++ [((k : Int), l[k]?.getD 0, ())] := by unfold prM; rw [upT_yes hk]; simp
theorem prM_no {l : List Int} {h : List Bool} {k : Nat} (hk : h[k]?.getD false = false) : prM l h (k + 1) = prM l h k := by unfold prM; rw [upT_no hk]
/-- A pair among those that rise. -/
def insP (K V : Int) : List Pr → List Pr
  | [] => [(K, V, ())]
  | e :: r => if e.1 < K then e :: insP K V r else (K, V, ()) :: (e :: r).filter fun p => decide (p.1 ≠ K)
theorem insP_app {K V : Int} : ∀ {a b : List Pr}, (∀ e ∈ a, e.1 < K) → insP K V (a ++ b) = a ++ insP K V b
  | [], b, _ => rfl
  | e :: a, b, h => by
    simp only [List.cons_append, insP]
    rw [if_pos (h e List.mem_cons_self), insP_app fun e he => h e (List.mem_cons_of_mem _ he)]
theorem insP_ge {K V : Int} : ∀ {b : List Pr}, (∀ e ∈ b, K ≤ e.1) → insP K V b = (K, V, ()) :: b.filter fun p => decide (p.1 ≠ K)
  | [], _ => rfl
  | e :: b, h => by
    simp only [insP]
    rw [if_neg (by have := h e List.mem_cons_self; omega)]
/-- What lies behind a place. -/
def tl (l : List Int) (h : List Bool) (k d : Nat) : List Pr := (List.range' k d).filterMap fun (i : Nat) => if h[i]?.getD false = true then some ((i : Int), l[i]?.getD 0, ()) else none
theorem prM_add (l : List Int) (h : List Bool) (k : Nat) : ∀ d, prM l h (k + d) = prM l h k ++ tl l h k d
  | 0 => by simp [tl]
  | d + 1 => by
    have ih := prM_add l h k d
    have e : tl l h k (d + 1) = tl l h k d ++ (if h[k + d]?.getD false = true then [(((k + d : Nat) : Int), l[k + d]?.getD 0, ())] else []) := by
      unfold tl
      rw [List.range'_concat, List.filterMap_append]
      congr 1
      simp only [List.filterMap_cons, List.filterMap_nil, Nat.one_mul]
      split <;> rename_i hx <;> split at hx <;> simp_all
    rw [e, ← Nat.add_assoc]
    cases hk : h[k + d]?.getD false with
    | true => rw [prM_yes hk, ih]; simp
    | false => rw [prM_no hk, ih]; simp
theorem prM_lt {l : List Int} {h : List Bool} {m : Nat} : ∀ e ∈ prM l h m, e.1 < (m : Int) := fun e he => by
  obtain ⟨p, hp, rfl⟩ := List.mem_map.1 he
  have := (upT_mem hp).1
  simp only
  omega
theorem tl_ge {l : List Int} {h : List Bool} {k d : Nat} : ∀ e ∈ tl l h k d, (k : Int) ≤ e.1 := fun e he => by
  unfold tl at he
  rw [List.mem_filterMap] at he
  obtain ⟨i, hi, hx⟩ := he
  split at hx
  · simp only [Option.some.injEq] at hx
    subst hx
    have := List.mem_range'_1.1 hi
    simp only
    omega
  · cases hx
theorem tl_congr {l l' : List Int} {h h' : List Bool} {k d : Nat} (e1 : ∀ i, k ≤ i → l'[i]?.getD 0 = l[i]?.getD 0) (e2 : ∀ i, k ≤ i → h'[i]?.getD false = h[i]?.getD false) : tl l' h' k d = tl l h k d := by
  unfold tl
  have : ∀ (r : List Nat), (∀ i ∈ r, k ≤ i) → r.filterMap (fun (i : Nat) => if h'[i]?.getD false = true then some ((i : Int), l'[i]?.getD 0, ()) else none) = r.filterMap (fun (i : Nat) => if h[i]?.getD false = true then some ((i : Int), l[i]?.getD 0, ()) else none) := fun r => by
    induction r with
    | nil => intro _; rfl
    | cons i r ih =>
      intro hr
      simp only [List.filterMap_cons]
      rw [e1 i (hr i List.mem_cons_self), e2 i (hr i List.mem_cons_self), ih fun j hj => hr j (List.mem_cons_of_mem _ hj)]
  exact this _ fun i hi => (List.mem_range'_1.1 hi).1
theorem prM_congr {l l' : List Int} {h h' : List Bool} : ∀ {k : Nat}, (∀ i, i < k → l'[i]?.getD 0 = l[i]?.getD 0) → (∀ i, i < k → h'[i]?.getD false = h[i]?.getD false) → prM l' h' k = prM l h k
  | 0, _, _ => rfl
  | k + 1, e1, e2 => by
    have ih := prM_congr (l := l) (l' := l') (h := h) (h' := h') (k := k) (fun i hi => e1 i (by omega)) (fun i hi => e2 i (by omega))
    cases hk : h[k]?.getD false with
    | true => rw [prM_yes hk, prM_yes ((e2 k (by omega)).trans hk), ih, e1 k (by omega)]
    | false => rw [prM_no hk, prM_no ((e2 k (by omega)).trans hk), ih]
/-- Beyond its end a table has nothing. -/
theorem prM_end (l : List Int) (h : List Bool) {m : Nat} (hm : h.length ≤ m) (d : Nat) : prM l h (m + d) = prM l h m := by
  induction d with
  | zero => rfl
  | succ d ih =>
    rw [← Nat.add_assoc, prM_no (by rw [List.getElem?_eq_none (by omega)]; rfl), ih]
def grow {α : Type} (z : α) (l : List α) (K : Nat) : List α := l ++ List.replicate (K + 1 - l.length) z
theorem grow_len {α : Type} (z : α) (l : List α) (K : Nat) : (grow z l K).length = max l.length (K + 1) := by
  unfold grow
  simp
  omega
theorem grow_get {α : Type} (z : α) (l : List α) (K i : Nat) : (grow z l K)[i]?.getD z = l[i]?.getD z := by
  unfold grow
  by_cases hi : i < l.length
  · rw [List.getElem?_append_left hi]
  · rw [List.getElem?_append_right (by omega), List.getElem?_eq_none (l := l) (by omega), List.getElem?_replicate]
    split <;> rfl
theorem set_get {α : Type} (z v : α) (l : List α) {K : Nat} (hK : K < l.length) (i : Nat) : (l.set K v)[i]?.getD z = if i = K then v else l[i]?.getD z := by
  rw [List.getElem?_set]
  by_cases e : K = i
  · subst e
    simp [hK]
  · rw [if_neg e, if_neg (Ne.symm e)]
/-- A value laid: its pair among the others. -/
theorem prs_set (l : List Int) (h : List Bool) (hlh : l.length = h.length) (K : Nat) (V : Int) :
    prs ((grow 0 l K).set K V) ((grow false h K).set K true) = insP (K : Int) V (prs l h) ∧ (insP (K : Int) V (prs l h)).length = (prs l h).length + (if h[K]?.getD false = true then 0 else 1) := by
  obtain ⟨l', hl'⟩ : ∃ l', l' = (grow 0 l K).set K V := ⟨_, rfl⟩
  obtain ⟨h', hh'⟩ : ∃ h', h' = (grow false h K).set K true := ⟨_, rfl⟩
  have gl : ∀ i, l'[i]?.getD 0 = if i = K then V else l[i]?.getD 0 := fun i => by
    rw [hl', set_get 0 V _ (by rw [grow_len]; omega), grow_get]
  have gh : ∀ i, h'[i]?.getD false = if i = K then true else h[i]?.getD false := fun i => by
    rw [hh', set_get false true _ (by rw [grow_len]; omega), grow_get]
  have hlen : l'.length = max l.length (K + 1) := by rw [hl', List.length_set, grow_len]
  obtain ⟨d, hd⟩ : ∃ d, l'.length = K + 1 + d := ⟨l'.length - (K + 1), by omega⟩
  have e1 : prs l' h' = prM l h K ++ [((K : Int), V, ())] ++ tl l h (K + 1) d := by
    show prM l' h' l'.length = _
    rw [hd, prM_add, prM_yes (by rw [gh, if_pos rfl]), gl, if_pos rfl]
    rw [prM_congr (l := l) (h := h) (fun i hi => by rw [gl, if_neg (by omega)]) (fun i hi => by rw [gh, if_neg (by omega)]),
      tl_congr (l := l) (h := h) (fun i hi => by rw [gl, if_neg (by omega)]) (fun i hi => by rw [gh, if_neg (by omega)])]
  have e2 : prs l h = prM l h K ++ (if h[K]?.getD false = true then [((K : Int), l[K]?.getD 0, ())] else []) ++ tl l h (K + 1) d := by
    show prM l h l.length = _
    have : prM l h l.length = prM l h (K + 1 + d) := by
      rw [← hd, hlen]
      rcases Nat.le_total l.length (K + 1) with hle | hle
      · rw [Nat.max_eq_right hle]
        obtain ⟨c, hc⟩ : ∃ c, K + 1 = l.length + c := ⟨K + 1 - l.length, by omega⟩
        rw [hc, prM_end l h (by omega)]
      · rw [Nat.max_eq_left hle]
    rw [this, prM_add]
    cases hk : h[K]?.getD false with
    | true => rw [prM_yes hk]; simp
    | false => rw [prM_no hk]; simp
  have hfil : (tl l h (K + 1) d).filter (fun p => decide (p.1 ≠ (K : Int))) = tl l h (K + 1) d := by
    rw [List.filter_eq_self]
    intro e he
    have := tl_ge e he
    simp only [ne_eq, decide_eq_true_eq]
    omega
  have e3 : insP (K : Int) V (prs l h) = prM l h K ++ [((K : Int), V, ())] ++ tl l h (K + 1) d := by
    rw [e2, List.append_assoc, insP_app prM_lt, insP_ge]
    · rw [List.filter_append, hfil]
      split <;> simp
    · intro e he
      rcases List.mem_append.1 he with he | he
      · split at he
        · simp at he
          subst he
          exact Int.le_refl _
        · cases he
      · have := tl_ge e he
        omega
  refine ⟨by rw [← hl', ← hh']; exact e1.trans e3.symm, ?_⟩
  rw [e3, e2]
  split <;> simp <;> omega

theorem TSet_in (l : List Int) (h : List Bool) (n : Int) (K : Nat) (V : Int) (hlh : l.length = h.length) (hl : l.length ≤ 2000) (hK : K < 2000) (hn : 0 ≤ n ∧ n ≤ 1000) :
    table_Table_35_p0 ((l, h, n, ()), (K : Int), V, ()) = some (.inl (true, ((grow 0 l K).set K V, (grow false h K).set K true, n + (if h[K]?.getD false = true then 0 else 1), ()), ())) := by
  unfold table_Table_35_p0
  have hlim := lim_up (step := table_Table_35_p0_l6_step) (y := .inl ((grow 0 l K, grow false h K, n, ()), ())) (fun j => ((l ++ List.replicate j (0 : Int), h ++ List.replicate j false, n, ()), (K : Int), ())) (K + 1 - l.length)
    (fun g j hj => by
      unfold table_Table_35_p0_l6_step
      have e1 : decide (((l ++ List.replicate j (0 : Int)).length : Int) ≤ (K : Int)) = true := by simp; omega
      have e2 : roomB (l ++ List.replicate j (0 : Int) ++ [(0 : Int)]).length 10 = true := roomB_ok (by simp; omega)
      have e3 : roomB (h ++ List.replicate j false ++ [false]).length 3 = true := roomB_ok (by simp; omega)
      simp only [e1, cond_true, e2, e3, ck]
      rw [List.replicate_succ', List.replicate_succ', List.append_assoc, List.append_assoc])
    (fun g => by
      unfold table_Table_35_p0_l6_step
      have e1 : decide (((l ++ List.replicate (K + 1 - l.length) (0 : Int)).length : Int) ≤ (K : Int)) = false := by simp; omega
      simp only [e1, cond_false]
      unfold grow
      rw [hlh])
  have hc : (cond (decide ((K : Int) < (0 : Int))) true (decide ((K : Int) ≥ (1048576 : Int)))) = false := by
    rw [cond_or, Bool.eq_false_iff]
    intro e
    simp only [Bool.or_eq_true, decide_eq_true_eq] at e
    omega
  have e0 : ((l ++ List.replicate 0 (0 : Int), h ++ List.replicate 0 false, n, ()), (K : Int), ()) = ((l, h, n, ()), (K : Int), ()) := by simp
  rw [e0] at hlim
  simp only [hc, cond_false]
  rw [hlim]
  have b1 : inB (K : Int) (grow false h K).length = true := inB_nat (by rw [grow_len]; omega)
  have b2 : inB (K : Int) (grow 0 l K).length = true := inB_nat (by rw [grow_len]; omega)
  have g1 : (grow false h K).getD K (Ty.dflt .bool) = h[K]?.getD false := by
    rw [List.getD_eq_getElem?_getD]
    exact grow_get false h K K
  simp only [Option.bind_some, out1, b1, ck, cond_true, Int.toNat_natCast]
  rw [g1]
  unfold table_Table_35_p0_j103_v
  cases hk : h[K]?.getD false with
  | true => simp [b1, b2, out1]
  | false =>
    have hw : IntKind.i64.wrap (n + 1) = n + 1 := wrap64 (by omega) (by omega)
    simp [b1, b2, out1, hw]
theorem TSet_out (l : List Int) (h : List Bool) (n K V : Int) (hK : K < 0 ∨ K ≥ 1048576) : table_Table_35_p0 ((l, h, n, ()), K, V, ()) = some (.inl (false, (l, h, n, ()), ())) := by
  unfold table_Table_35_p0
  have hc : (cond (decide (K < (0 : Int))) true (decide (K ≥ (1048576 : Int)))) = true := by
    rcases hK with h | h <;> simp [h]
  simp only [hc, cond_true]
/-- The document's answer. -/
theorem refSet_eq (w : List Pr) (K V : Int) (hw : w.length ≤ 1000) (hK : 0 ≤ K ∧ K < 1048576) : ref08_Set (w, K, V, ()) = some (insP K V w, true, ()) := by
  unfold ref08_Set
  obtain ⟨f, hf⟩ : ∃ f : Nat → (List Pr × Bool) → Pr → (List Pr × Bool), f = fun _ s e => (if e.1 ≠ K then (if s.2 = false ∧ K ≤ e.1 then s.1 ++ [(K, V, ())] else s.1) ++ [e] else (if s.2 = false ∧ K ≤ e.1 then s.1 ++ [(K, V, ())] else s.1), if s.2 = false ∧ K ≤ e.1 then true else s.2) := ⟨_, rfl⟩
  have flen : ∀ i s e, (f i s e).1.length ≤ s.1.length + 2 := fun i s e => by
    rw [hf]
    dsimp only
    split <;> split <;> simp
  have h := lim_foldI (step := ref08_Set_l12_step) w f (fun s i => (w, K, V, s.1, s.2, (i : Int), ())) (fun s => .inl (s.1, s.2, ())) (fun i s => s.1.length ≤ 2 * i)
    (fun g i s hi hinv => by
      unfold ref08_Set_l12_step
      simp only [dlt hi, cond_true, inB_nat hi, Bool.true_or, ck, rdL_nat t_easementref08_Pair w hi]
      rw [wrap_succ (by omega)]
      unfold ref08_Set_j71_v
      have hr1 : roomB (s.1 ++ [(K, V, ())]).length 19 = true := roomB_ok (by simp; omega)
      have hr2 : ∀ o : List Pr, o.length ≤ s.1.length + 1 → roomB (o ++ [w[i]]).length 19 = true := fun o ho => roomB_ok (by simp; omega)
      rw [cond_and, hf]
      by_cases hp : s.2 = false ∧ K ≤ w[i].1
      · have hb : (!s.2 && decide (w[i].1 ≥ K)) = true := by simp [hp.1, hp.2]
        simp only [hb, cond_true, hr1, ck, Option.bind_some, out1, if_pos hp, inB_nat hi]
        unfold ref08_Set_j97_v
        by_cases hk : w[i].1 = K
        · have hb2 : (w[i].1 != K) = false := by simp [hk]
          simp only [hb2, cond_false, Option.bind_some, out1, if_neg (not_not_intro hk)]
        · have hb2 : (w[i].1 != K) = true := by simp [hk]
          have hr := hr2 (s.1 ++ [(K, V, ())]) (by simp)
          simp only [hb2, cond_true, inB_nat hi, ck, rdL_nat t_easementref08_Pair w hi, hr, Option.bind_some, out1, if_pos (show w[i].1 ≠ K from hk)]
      · have hb : (!s.2 && decide (w[i].1 ≥ K)) = false := by
          rw [Bool.eq_false_iff]
          intro e
          simp at e
          exact hp e
        simp only [hb, cond_false, cond_true, Option.bind_some, out1, if_neg hp, inB_nat hi]
        unfold ref08_Set_j97_v
        by_cases hk : w[i].1 = K
        · have hb2 : (w[i].1 != K) = false := by simp [hk]
          simp only [hb2, cond_false, Option.bind_some, out1, if_neg (not_not_intro hk)]
        · have hb2 : (w[i].1 != K) = true := by simp [hk]
          have hr := hr2 s.1 (by omega)
          simp only [hb2, cond_true, inB_nat hi, ck, rdL_nat t_easementref08_Pair w hi, hr, Option.bind_some, out1, if_pos (show w[i].1 ≠ K from hk)])
    (fun i s hi hinv => by
      have := flen i s w[i]
      omega)
    (fun g s hinv => by
      unfold ref08_Set_l12_step
      simp)
    (s0 := ([], false)) (by simp)
  have yes : ∀ (r : List Pr) (i : Nat) (o : List Pr), foldI f i (o, true) r = (o ++ r.filter (fun p => decide (p.1 ≠ K)), true) := fun r => by
    induction r with
    | nil => intro i o; simp [foldI]
    | cons e r ih =>
      intro i o
      simp only [foldI]
      have : f i (o, true) e = (o ++ [e].filter (fun p => decide (p.1 ≠ K)), true) := by
        rw [hf]
        by_cases hk : e.1 = K
        · simp [hk]
        · simp [hk]
      rw [this, ih]
      simp only [List.append_assoc, ← List.filter_append, List.singleton_append]
  have no : ∀ (r : List Pr) (i : Nat) (o : List Pr), (match foldI f i (o, false) r with
      | (o', true) => o'
      | (o', false) => o' ++ [(K, V, ())]) = o ++ insP K V r := fun r => by
    induction r with
    | nil => intro i o; simp [foldI, insP]
    | cons e r ih =>
      intro i o
      simp only [foldI, insP]
      by_cases hlt : e.1 < K
      · have : f i (o, false) e = (o ++ [e], false) := by
          rw [hf]
          simp [show ¬ K ≤ e.1 from by omega, show e.1 ≠ K from by omega]
        rw [this, ih, if_pos hlt]
        simp
      · have : f i (o, false) e = (o ++ (K, V, ()) :: [e].filter (fun p => decide (p.1 ≠ K)), true) := by
          rw [hf]
          by_cases hk : e.1 = K
          · simp [hk]
          · simp [hk, show K ≤ e.1 from by omega]
        rw [this, yes, if_neg hlt]
        simp only [List.append_assoc, List.cons_append, ← List.filter_append, List.singleton_append, List.nil_append]
  have hc : (cond (decide (K < (0 : Int))) true (decide (K ≥ (1048576 : Int)))) = false := by
    rw [cond_or, Bool.eq_false_iff]
    intro e
    simp only [Bool.or_eq_true, decide_eq_true_eq] at e
    omega
  have hno := no w 0 []
  have hbound : (foldI f 0 ([], false) w).1.length ≤ 2 * w.length := by
    have key : ∀ (r : List Pr) (i c : Nat) (s : List Pr × Bool), s.1.length ≤ c → (foldI f i s r).1.length ≤ c + 2 * r.length := fun r => by
      induction r with
      | nil => intro i c s hs; simpa [foldI] using hs
      | cons e r ih =>
        intro i c s hs
        simp only [foldI, List.length_cons]
        have := ih (i + 1) (c + 2) (f i s e) (by
          have := flen i s e
          omega)
        omega
    have := key w 0 0 ([], false) (by simp)
    omega
  rw [show ((0 : Nat) : Int) = 0 from rfl] at h
  simp only [hc, cond_false, h, Option.bind_some, out1]
  revert hno hbound
  generalize foldI f 0 ([], false) w = s
  obtain ⟨o, p⟩ := s
  intro hno hbound
  unfold ref08_Set_j115_v
  cases p with
  | true =>
    simp only [List.nil_append] at hno
    simp only [Bool.not_true, cond_false, Option.bind_some, out1]
    rw [hno]
  | false =>
    simp only [List.nil_append] at hno
    have hr : roomB (o ++ [(K, V, ())]).length 19 = true := roomB_ok (by simp at hbound ⊢; omega)
    simp only [Bool.not_false, cond_true, hr, ck, Option.bind_some, out1]
    rw [hno]
theorem refSet_out (w : List Pr) (K V : Int) (hK : K < 0 ∨ K ≥ 1048576) : ref08_Set (w, K, V, ()) = some (w, false, ()) := by
  unfold ref08_Set
  have hc : (cond (decide (K < (0 : Int))) true (decide (K ≥ (1048576 : Int)))) = true := by
    rcases hK with h | h <;> simp [h]
  simp only [hc, cond_true]
theorem refGet_eq (w : List Pr) (i : Int) (hw : w.length ≤ 1000) : ref08_Get (w, i, ()) = some (match w.find? (fun a => a.1 == i) with
    | some a => (a.2.1, true, ())
    | none => ((0 : Int), false, ())) := by
  unfold ref08_Get
  have h := lim_foldE (step := ref08_Get_l4_step) w (fun _ (s : Unit) a => if (a.1 == i) = true then .inl a.2.1 else .inr s) (fun _ k => (w, i, (k : Int), ())) (fun v => .inl (v, true, ())) (fun _ => .inr (.inl ())) (fun _ _ => True)
    (fun g k s hk _ => by
      unfold ref08_Get_l4_step
      simp only [dlt hk, cond_true, inB_nat hk, ck, rdL_nat t_easementref08_Pair w hk]
      rw [wrap_succ (by omega)]
      cases hb : (w[k].1 == i) with
      | true => simp
      | false => simp)
    (fun _ _ _ _ _ _ => trivial)
    (fun g s _ => by
      unfold ref08_Get_l4_step
      simp) (s0 := ()) trivial
  have key : ∀ (r : List Pr) (k : Nat), foldE (fun _ (s : Unit) (a : Pr) => if (a.1 == i) = true then (.inl a.2.1 : Int ⊕ Unit) else .inr s) k () r = match r.find? (fun a => a.1 == i) with
      | some a => .inl a.2.1
      | none => .inr () := fun r => by
    induction r with
    | nil => intro k; rfl
    | cons e r ih =>
      intro k
      simp only [foldE, List.find?_cons]
      cases hb : (e.1 == i) with
      | true => rfl
      | false => simpa using ih (k + 1)
  rw [show ((0 : Nat) : Int) = 0 from rfl] at h
  rw [h, key]
  cases w.find? (fun a => a.1 == i) <;> rfl
theorem find_prM (l : List Int) (h : List Bool) (i : Int) : ∀ m, (prM l h m).find? (fun a => a.1 == i) = if 0 ≤ i ∧ i < (m : Int) ∧ h[i.toNat]?.getD false = true then some (i, l[i.toNat]?.getD 0, ()) else none
  | 0 => by
    rw [if_neg (by omega)]
    rfl
  | m + 1 => by
    have ih := find_prM l h i m
    cases hk : h[m]?.getD false with
    | true =>
      rw [prM_yes hk, List.find?_append, ih]
      by_cases e : i = (m : Int)
      · subst e
        rw [if_neg (by omega), if_pos ⟨by omega, by omega, by simpa using hk⟩]
        simp
      · have : ((m : Int) == i) = false := by simpa using Ne.symm e
        simp only [List.find?_cons, List.find?_nil, this, Option.or_none]
        by_cases hc : 0 ≤ i ∧ i < (m : Int) ∧ h[i.toNat]?.getD false = true
        · rw [if_pos hc, if_pos ⟨hc.1, by omega, hc.2.2⟩]
        · rw [if_neg hc, if_neg (fun q => hc ⟨q.1, by omega, q.2.2⟩)]
    | false =>
      rw [prM_no hk, ih]
      by_cases hc : 0 ≤ i ∧ i < (m : Int) ∧ h[i.toNat]?.getD false = true
      · rw [if_pos hc, if_pos ⟨hc.1, by omega, hc.2.2⟩]
      · rw [if_neg hc, if_neg]
        intro q
        refine hc ?_
        have hne : i ≠ (m : Int) := fun e => by
          have := q.2.2
          rw [e, Int.toNat_natCast, hk] at this
          cases this
        exact ⟨q.1, by omega, q.2.2⟩

theorem TGet_eq (l : List Int) (h : List Bool) (n i : Int) (hlh : l.length = h.length) : table_Table_36_p0 ((l, h, n, ()), i, ()) = some (.inl (if 0 ≤ i ∧ i < (l.length : Int) then (l[i.toNat]?.getD 0, h[i.toNat]?.getD false, (l, h, n, ()), ()) else ((0 : Int), false, (l, h, n, ()), ()))) := by
  unfold table_Table_36_p0
  by_cases hc : 0 ≤ i ∧ i < (l.length : Int)
  · have hc2 : (cond (decide (i < (0 : Int))) true (decide (i ≥ (l.length : Int)))) = false := by
      rw [cond_or, Bool.eq_false_iff]
      intro e
      simp only [Bool.or_eq_true, decide_eq_true_eq] at e
      omega
    have b1 : inB i l.length = true := by rw [inB_iff]; exact hc
    have b2 : inB i h.length = true := by rw [inB_iff, ← hlh]; exact hc
    simp only [hc2, cond_false, b1, b2, ck, cond_true, if_pos hc]
    rw [List.getD_eq_getElem?_getD, List.getD_eq_getElem?_getD]
    rfl
  · have hc2 : (cond (decide (i < (0 : Int))) true (decide (i ≥ (l.length : Int)))) = true := by
      rw [cond_or]
      simp only [Bool.or_eq_true, decide_eq_true_eq]
      omega
    simp only [hc2, cond_true, if_neg hc]
theorem TGetF_eq (l : List Int) (h : List Bool) (n i : Int) (hlh : l.length = h.length) : table_Table_36 (some (l, h, n, ()), i, ()) = some (if 0 ≤ i ∧ i < (l.length : Int) then (l[i.toNat]?.getD 0, h[i.toNat]?.getD false, ()) else ((0 : Int), false, ())) := by
  unfold table_Table_36
  simp only [Option.isNone_some, Option.isSome_some, cond_false, Bool.true_or, ck, cond_true, Option.getD_some]
  by_cases hc : 0 ≤ i ∧ i < (l.length : Int)
  · have hc2 : (cond (decide (i < (0 : Int))) true (decide (i ≥ (l.length : Int)))) = false := by
      rw [cond_or, Bool.eq_false_iff]
      intro e
      simp only [Bool.or_eq_true, decide_eq_true_eq] at e
      omega
    have b1 : inB i l.length = true := by rw [inB_iff]; exact hc
    have b2 : inB i h.length = true := by rw [inB_iff, ← hlh]; exact hc
    simp only [hc2, cond_false, b1, b2, cond_true, if_pos hc]
    rw [rdL_in (.int .i64) l hc, rdL_in .bool h (by rw [← hlh]; exact hc), List.getElem?_eq_getElem (by omega), List.getElem?_eq_getElem (by omega)]
    rfl
  · have hc2 : (cond (decide (i < (0 : Int))) true (decide (i ≥ (l.length : Int)))) = true := by
      rw [cond_or]
      simp only [Bool.or_eq_true, decide_eq_true_eq]
      omega
    simp only [hc2, cond_true, if_neg hc]
/-- A table, and its pairs. -/
structure TInv (l : List Int) (h : List Bool) (n : Int) (w : List Pr) (c : Nat) : Prop where
  len : l.length = h.length
  small : l.length ≤ 2000
  pairs : w = prs l h
  cnt : n = (w.length : Int)
  few : w.length ≤ c
  zero : ∀ k : Nat, h[k]?.getD false = false → l[k]?.getD 0 = 0
theorem TInv.set {l : List Int} {h : List Bool} {n : Int} {w : List Pr} {c : Nat} (t : TInv l h n w c) (K : Nat) (V : Int) (hK : K < 2000) :
    TInv ((grow 0 l K).set K V) ((grow false h K).set K true) (n + (if h[K]?.getD false = true then 0 else 1)) (insP (K : Int) V w) (c + 1) := by
  obtain ⟨h1, h2⟩ := prs_set l h t.len K V
  have hlen := t.len
  rw [← t.pairs] at h1 h2
  refine ⟨?_, ?_, h1.symm, ?_, ?_, fun k hk => ?_⟩
  · rw [List.length_set, List.length_set, grow_len, grow_len, hlen]
  · rw [List.length_set, grow_len]
    have := t.small
    omega
  · rw [h2, t.cnt]
    split <;> simp
  · rw [h2]
    have := t.few
    split <;> omega
  · rw [set_get false true _ (by rw [grow_len]; omega), grow_get] at hk
    rw [set_get 0 V _ (by rw [grow_len]; omega), grow_get]
    by_cases e : k = K
    · rw [if_pos e] at hk
      cases hk
    · rw [if_neg e] at hk ⊢
      exact t.zero k hk
theorem TInv.more {l : List Int} {h : List Bool} {n : Int} {w : List Pr} {c : Nat} (t : TInv l h n w c) : TInv l h n w (c + 1) := ⟨t.len, t.small, t.pairs, t.cnt, Nat.le_succ_of_le t.few, t.zero⟩
/-- What a table has at a number, and the document's answer. -/
theorem TInv.get {l : List Int} {h : List Bool} {n : Int} {w : List Pr} {c : Nat} (t : TInv l h n w c) (hc : c ≤ 1000) (i : Int) : ∃ v b, table_Table_36_p0 ((l, h, n, ()), i, ()) = some (.inl (v, b, (l, h, n, ()), ())) ∧ table_Table_36 (some (l, h, n, ()), i, ()) = some (v, b, ()) ∧ ref08_Get (w, i, ()) = some (v, b, ()) := by
  have hf := t.few
  refine ⟨if 0 ≤ i ∧ i < (l.length : Int) then l[i.toNat]?.getD 0 else 0, if 0 ≤ i ∧ i < (l.length : Int) then h[i.toNat]?.getD false else false, ?_, ?_, ?_⟩
  · rw [TGet_eq l h n i t.len]
    split <;> rfl
  · rw [TGetF_eq l h n i t.len]
    split <;> rfl
  · rw [refGet_eq w i (by omega), t.pairs]
    show some (match (prM l h l.length).find? (fun a => a.1 == i) with
      | some a => (a.2.1, true, ())
      | none => ((0 : Int), false, ())) = _
    rw [find_prM]
    by_cases hr : 0 ≤ i ∧ i < (l.length : Int)
    · rw [if_pos hr, if_pos hr]
      cases hb : h[i.toNat]?.getD false with
      | true => rw [if_pos ⟨hr.1, hr.2, rfl⟩]
      | false =>
        rw [if_neg (fun q => by cases q.2.2), t.zero _ hb]
    · rw [if_neg hr, if_neg hr, if_neg (fun q => hr ⟨q.1, q.2.1⟩)]

/-- One more value laid. -/
theorem TInv.step {L : List Pr} {l : List Int} {h : List Bool} {n : Int} {w : List Pr} {i : Nat} (t : TInv l h n w i) (hL : L.length ≤ 40) (hi : i < L.length) (hg : L[i].1 < 2000 ∨ L[i].1 ≥ 1048576) :
    ∃ l' h' n' w' b, TInv l' h' n' w' (i + 1) ∧ ref08_Set (w, L[i]) = some (w', b, ()) ∧ table_Table_35_p0 ((l, h, n, ()), L[i]) = some (.inl (b, (l', h', n', ()), ())) := by
  have hf := t.few
  by_cases hr : 0 ≤ L[i].1 ∧ L[i].1 < 2000
  · obtain ⟨K, hK⟩ := Int.eq_ofNat_of_zero_le hr.1
    have e : L[i] = ((K : Int), L[i].2.1, ()) := Prod.ext hK rfl
    rw [e]
    exact ⟨_, _, _, _, true, t.set K L[i].2.1 (by omega), refSet_eq w _ _ (by omega) (by omega), TSet_in l h n K _ t.len t.small (by omega) (by have := t.cnt; omega)⟩
  · have e : L[i] = (L[i].1, L[i].2.1, ()) := rfl
    rw [e]
    exact ⟨l, h, n, w, false, t.more, refSet_out w _ _ (by omega), TSet_out l h n _ _ (by omega)⟩
theorem tablePlays_true (x : List Pr × Int × Int × Unit) : law08_TablePlays x = some (true, ()) := by
  obtain ⟨L, a, o, u⟩ := x
  unfold law08_TablePlays
  rw [awake08]
  by_cases hL : (L.length : Int) > 40
  · simp only [hL, decide_true, cond_true, Option.bind_some]
  · have hL2 : L.length ≤ 40 := by omega
    have hd : decide ((L.length : Int) > 40) = false := by simpa using hL
    simp only [hd, cond_false]
    obtain ⟨y, hy, hlim⟩ := lim_ex (step := law08_TablePlays_l12_step) (x := ((([] : List Int), ([] : List Bool), (0 : Int), ()), L, a, o, ([] : List Pr), (0 : Int), ()))
      (fun x => ∃ (l : List Int) (h : List Bool) (n : Int) (w : List Pr) (i : Nat), x = ((l, h, n, ()), L, a, o, w, (i : Int), ()) ∧ i ≤ L.length ∧ TInv l h n w i) (fun x => L.length - x.2.2.2.2.2.1.toNat)
      (fun y => (∃ t, y = .inl (true, t, ())) ∨ ∃ (l : List Int) (h : List Bool) (n : Int) (w : List Pr), y = .inr (.inl (w, (l, h, n, ()), ())) ∧ TInv l h n w L.length) (by
        rintro x ⟨l, h, n, w, i, rfl, hi, t⟩
        by_cases hlt : i < L.length
        · have e1 := dlt hlt
          by_cases hg : L[i].1 ≥ 2000 ∧ L[i].1 < 1048576
          · refine .inl ⟨_, .inl ⟨(l, h, n, ()), rfl⟩, fun g => ?_⟩
            unfold law08_TablePlays_l12_step
            simp only [e1, cond_true, inB_nat hlt, ck, rdL_nat t_easementref08_Pair L hlt, Bool.true_or, hg.1, hg.2, decide_true, awake08, Option.bind_some]
          · have hgc : (cond (decide (L[i].1 ≥ (2000 : Int))) (decide (L[i].1 < (1048576 : Int))) false) = false := by
              rw [cond_and, Bool.eq_false_iff]
              intro e
              simp only [Bool.and_eq_true, decide_eq_true_eq] at e
              exact hg e
            obtain ⟨l', h', n', w', b, t', k1, k2⟩ := t.step hL2 hlt (by omega)
            obtain ⟨v, bb, g1, g2, g3⟩ := t'.get (by omega) a
            refine .inr ⟨((l', h', n', ()), L, a, o, w', ((i + 1 : Nat) : Int), ()), ⟨l', h', n', w', i + 1, rfl, by omega, t'⟩, by simp only [Int.toNat_natCast]; omega, fun g => ?_⟩
            unfold law08_TablePlays_l12_step
            have hlen : table_Table_38 (some (l', h', n', ()), ()) = some (n', ()) := rfl
            have hor : table_Table_39 (some (l', h', n', ()), a, o, ()) = some (if bb = true then v else o, ()) := by
              unfold table_Table_39
              simp only
              rw [g2]
              cases bb <;> rfl
            have hn : (n' != (w'.length : Int)) = false := by rw [t'.cnt]; simp
            simp only [e1, cond_true, inB_nat hlt, ck, rdL_nat t_easementref08_Pair L hlt, Bool.true_or, hgc, cond_false, k1, k2, Option.bind_some, out1, BEq.rfl, Bool.not_true, g1, g3, bne_self_eq_false, hlen, hn, Bool.not_false, hor]
            rw [wrap_succ (by omega)]
            cases bb <;> simp
        · obtain rfl : i = L.length := by omega
          refine .inl ⟨_, .inr ⟨l, h, n, w, rfl, t⟩, fun g => ?_⟩
          unfold law08_TablePlays_l12_step
          simp) ⟨[], [], 0, [], 0, rfl, Nat.zero_le _, ⟨rfl, by simp, rfl, rfl, by simp, fun k _ => by simp⟩⟩
    rw [hlim]
    rcases hy with ⟨t, rfl⟩ | ⟨l, h, n, w, rfl, t⟩
    · rfl
    · have hp : law08_pairs (some (l, h, n, ()), ()) = some (w, true, ()) := by
        unfold law08_pairs
        have h1 := t.len
        have h2 := t.small
        simp only
        rw [if_pos ⟨by omega, by omega⟩, t.pairs]
        rfl
      have hf := t.few
      simp only [Option.bind_some, out2, hp, cond_true]
      rw [Same_self w (by omega)]
      rfl
end Go.XD


/- The row: TablePlays returns true, for every input. -/
namespace Go.Proofs.Ytnkbpdcohkhkjaa
open Go.XD

theorem tablePlays_own : ownKnob Try.prog.godebug = none := by kernel_rfl
theorem tablePlays_lifted (os : Os) (started : os.Started) (H : Type) (enc : TypeId × Value → H) :
    ReturnsInHanded {} Try.checked os 5 .any (Rows.tablePlaysSpec.pre6 enc Try.prog Try.f5 Rows.tablePlaysRow.domain false) (Rows.tablePlaysSpec.post enc Try.prog Try.f5 false true false false) :=
  law_ok (C := Try.checked) started tablePlays_own (by kernel_rfl) Try.func5
    (ChangeSpec.witness6 (enc := enc) (C := Try.checked) false ⟨#[], #[.slice none 0 0, .int .i64 0, .int .i64 0], []⟩ 8 (by kernel_rfl) (by kernel_rfl) (by kernel_rfl) (by kernel_rfl))
    rfl (fun ds h => by
      match ds, h with
      | [_, _, _], _ => rfl) rfl (rt := 4) (by kernel_rfl) (by kernel_rfl) law08_TablePlays_ok tablePlays_true (by kernel_rfl) (by kernel_rfl)
theorem tablePlays_holds : Rows.TablePlaysSaid :=
  OpenClaim.holds_of_wide 5 Try.f5 rfl rfl rfl rfl rfl rfl rfl ⟨rfl, rfl, rfl, rfl, rfl⟩ rfl rfl rfl rfl rfl (by kernel_rfl) Try.func5 (by kernel_rfl)
    (of_decide_eq_true (by kernel_rfl)) (by unfold Func.isWrapper; first | (rw [if_pos (by decide +kernel)]; kernel_rfl) | (rw [if_neg (by decide +kernel)]; exact ⟨rfl, rfl⟩))
    (fun os started H enc _ => tablePlays_lifted os started H enc)
#print axioms tablePlays_holds
end Go.Proofs.Ytnkbpdcohkhkjaa


