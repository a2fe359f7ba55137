/- The law FlowOrders returns true for every input, and its arguments read as they did: no condition. -/
import Derived.Test.YtpknfcdpknpgfaaGreatRows
import Derived.JoinedOf
import Derived.Test.YtpknfcdpknpgfaaGreatFlowOrdersP
import Derived.Test.YtpknfcdpknpgfaaGreatEd
import Derived.Test.YtpknfcdpknpgfaaGreatFlowOrdersGa
set_option linter.unusedVariables false
set_option linter.unusedSimpArgs false
set_option linter.unusedSectionVars false
set_option linter.unnecessarySimpa false
set_option linter.deprecated false
set_option maxRecDepth 100000
/- Plain law of the package point against the document's answer. -/
namespace Go.XD

/-! ### Small bodies -/
theorem few_eq (l : V_api_Type) (n : Int) : ref15_Few (l, n, ()) = some (decide ((l.1.length : Int) ≤ n), ()) := rfl
def sfw (s : V_api_Sig) : Bool := bif !(decide ((s.2.1.length : Int) > 20) || decide ((s.2.2.1.length : Int) > 20)) then (bif !(decide ((s.2.2.2.1.length : Int) ≤ 20)) then false else !(s.2.2.1.any fun t => !(decide ((t.1.length : Int) ≤ 20)))) else false
theorem sfew_eq (s : V_api_Sig) (hl : s.2.2.1.length ≤ 140737488355328) : ref17_Few (s, ()) = some (sfw s, ()) := by
  obtain ⟨p, bs, ags, ret, ⟨⟩⟩ := s
  simp only at hl
  have l1 := lim_any (step := ref17_Few_l8_step) ags (fun t => !(decide ((t.1.length : Int) ≤ 20))) (fun i => ((p, bs, ags, ret, ()), (i : Int), ())) (yes := .inl (false, (p, bs, ags, ret, ()), ())) (no := .inr (.inl ((p, bs, ags, ret, ()), ()))) (fun g i hi => by
    unfold ref17_Few_l8_step
    simp only [dlt hi, cond_true, inB_nat hi, ck_true, rdL_nat t_api_Type ags hi, few_eq, Option.bind_some, wrap_succ (show i < 9223372036854775807 by omega)]) (fun g => by
    unfold ref17_Few_l8_step
    simp only [dge (Nat.lt_irrefl _), cond_false])
  simp only [Int.natCast_zero] at l1
  unfold ref17_Few sfw
  simp only [few_eq, Option.bind_some, cond_or]
  cases !(decide ((bs.length : Int) > 20) || decide ((ags.length : Int) > 20)) with
  | false => rfl
  | true =>
    simp only [cond_true]
    cases !(decide ((ret.length : Int) ≤ 20)) with
    | true => rfl
    | false =>
      simp only [cond_false]
      rw [show lim ref17_Few_l8_step ((p, bs, ags, ret, ()), (0 : Int), ()) = _ from l1]
      cases ags.any (fun t => !(decide ((t.1.length : Int) ≤ 20))) <;> rfl
/-- A small body. -/
structure Sml (b : V_api_Body) : Prop where
  bnd : b.2.2.1.length ≤ 20
  loc : b.2.2.2.1.length ≤ 10
  ty : ∀ t ∈ b.2.2.2.1, t.1.length ≤ 20
  ret : b.2.2.2.2.1.length ≤ 20
  sig : b.2.2.2.2.2.1.length ≤ 4
  blk : b.2.2.2.2.2.2.1.length ≤ 8
  stm : (b.2.2.2.2.2.2.1.map fun x => x.1.length).sum ≤ 24
  arg : ∀ x ∈ b.2.2.2.2.2.2.1, x.2.2.2.2.2.1.length ≤ 20
theorem Sml.stm1 {b : V_api_Body} (h : Sml b) : ∀ x ∈ b.2.2.2.2.2.2.1, x.1.length ≤ 24 := fun x hx => by
  have h1 := h.stm
  have : ∀ l : List V_api_Block, x ∈ l → x.1.length ≤ (l.map fun x => x.1.length).sum := fun l => by
    induction l with
    | nil => intro h; cases h
    | cons y l ih =>
      intro h
      simp only [List.map_cons, List.sum_cons]
      rcases List.mem_cons.1 h with rfl | h
      · omega
      · have := ih h; omega
  exact Nat.le_trans (this _ hx) h1
theorem Sml.small {b : V_api_Body} (h : Sml b) : SmallB b :=
  ⟨Nat.le_trans h.bnd (by omega), fun t ht => Nat.le_trans (h.ty t ht) (by omega), Nat.le_trans h.loc (by omega), Nat.le_trans h.ret (by omega), Nat.le_trans h.sig (by omega), Nat.le_trans h.blk (by omega), fun x hx => Nat.le_trans (h.stm1 x hx) (by omega)⟩
theorem sum_loop : ∀ (l : List V_api_Block), (∀ x ∈ l, x.1.length ≤ 140737488355328) → (l.map fun x => x.1.length).sum ≤ l.length * 140737488355328
  | [], _ => by simp
  | x :: l, h => by
    have h1 := h x List.mem_cons_self
    have h2 := sum_loop l (fun y hy => h y (List.mem_cons_of_mem _ hy))
    simp only [List.map_cons, List.sum_cons, List.length_cons, Nat.succ_mul]
    omega
theorem Small_eq (b : V_api_Body) (hs : ∀ x ∈ b.2.2.2.2.2.2.1, x.1.length ≤ 140737488355328) (hg : ∀ s ∈ b.2.2.2.2.2.1, s.2.2.1.length ≤ 140737488355328) : ∃ c, ref20_Small (b, ()) = some (c, ()) ∧ (c = true → Sml b) := by
  obtain ⟨u, r, bs, ls, ret, sgs, bks, ⟨⟩⟩ := b
  simp only at hs hg
  unfold ref20_Small
  simp only [few_eq, Option.bind_some, cond_or]
  cases h0 : !(decide ((bs.length : Int) > 20) || decide ((ls.length : Int) > 10) || decide ((sgs.length : Int) > 4) || decide ((bks.length : Int) > 8)) with
  | false => exact ⟨_, rfl, fun e => by cases e⟩
  | true =>
    simp only [Bool.not_eq_true', Bool.or_eq_false_iff, decide_eq_false_iff_not] at h0
    obtain ⟨⟨⟨g1, g2⟩, g3⟩, g4⟩ := h0
    simp only [cond_true]
    cases h1 : !(decide ((ret.length : Int) ≤ 20)) with
    | true => exact ⟨_, rfl, fun e => by cases e⟩
    | false =>
      have hret : ret.length ≤ 20 := by
        have : decide ((ret.length : Int) ≤ 20) = true := by simpa using h1
        have := of_decide_eq_true this
        omega
      simp only [cond_false]
      have l1 := lim_any (step := ref20_Small_l8_step) ls (fun t => !(decide ((t.1.length : Int) ≤ 20))) (fun i => ((u, r, bs, ls, ret, sgs, bks, ()), (i : Int), ())) (yes := .inl (false, (u, r, bs, ls, ret, sgs, bks, ()), ())) (no := .inr (.inl ((u, r, bs, ls, ret, sgs, bks, ()), ()))) (fun g i hi => by
        unfold ref20_Small_l8_step
        simp only [dlt hi, cond_true, inB_nat hi, ck_true, rdL_nat t_api_Type ls hi, few_eq, Option.bind_some, wrap_succ (show i < 9223372036854775807 by omega)]) (fun g => by
        unfold ref20_Small_l8_step
        simp only [dge (Nat.lt_irrefl _), cond_false])
      rw [show lim ref20_Small_l8_step ((u, r, bs, ls, ret, sgs, bks, ()), (0 : Int), ()) = _ from l1]
      cases h2 : ls.any (fun t => !(decide ((t.1.length : Int) ≤ 20))) with
      | true => exact ⟨_, rfl, fun e => by cases e⟩
      | false =>
        have hty : ∀ t ∈ ls, t.1.length ≤ 20 := fun t ht => by
          have := List.any_eq_false.1 h2 t ht
          have h3 : decide ((t.1.length : Int) ≤ 20) = true := by simpa using this
          have := of_decide_eq_true h3
          omega
        simp only [cond_false, Option.bind_some, out2_inr]
        have l2 : ∃ y, lim ref20_Small_l18_step ((u, r, bs, ls, ret, sgs, bks, ()), (0 : Int), ()) = some (bif y then .inl (false, (u, r, bs, ls, ret, sgs, bks, ()), ()) else .inr (.inl ((u, r, bs, ls, ret, sgs, bks, ()), ()))) := by
          have l := lim_any (step := ref20_Small_l18_step) sgs (fun s => !(sfw s)) (fun i => ((u, r, bs, ls, ret, sgs, bks, ()), (i : Int), ())) (yes := .inl (false, (u, r, bs, ls, ret, sgs, bks, ()), ())) (no := .inr (.inl ((u, r, bs, ls, ret, sgs, bks, ()), ()))) (fun g i hi => by
            have hc := sfew_eq sgs[i] (hg _ (List.getElem_mem hi))
            unfold ref20_Small_l18_step
            simp only [dlt hi, cond_true, inB_nat hi, ck_true, rdL_nat t_api_Sig sgs hi, wrap_succ (show i < 9223372036854775807 by omega)]
            change Option.bind (ref17_Few (sgs[i], ())) _ = _
            rw [hc]
            rfl) (fun g => by
            unfold ref20_Small_l18_step
            simp only [dge (Nat.lt_irrefl _), cond_false])
          exact ⟨_, l⟩
        obtain ⟨y, hy⟩ := l2
        rw [hy]
        cases y with
        | true => exact ⟨_, rfl, fun e => by cases e⟩
        | false =>
          simp only [cond_false, Option.bind_some, out2_inr]
          have l3 := lim_foldE (step := ref20_Small_l30_step) bks (fun (_ : Nat) (n : Int) (x : V_api_Block) => bif decide ((x.2.2.2.2.1.length : Int) > 20) || decide ((x.2.2.2.2.2.1.length : Int) > 20) || decide ((x.2.2.2.2.2.2.1.length : Int) > 20) then Sum.inl () else .inr (n + (x.1.length : Int))) (fun n i => ((u, r, bs, ls, ret, sgs, bks, ()), n, (i : Int), ())) (fun _ => .inl (false, (u, r, bs, ls, ret, sgs, bks, ()), ())) (fun n => .inr (.inl (n, (u, r, bs, ls, ret, sgs, bks, ()), ()))) (fun i n => n = (((bks.take i).map fun x => x.1.length).sum : Nat)) (fun g i n hi hinv => by
            have h5 := sum_loop (bks.take (i + 1)) (fun x hx => hs x (List.mem_of_mem_take hx))
            have h6 : (bks.take (i + 1)).length * 140737488355328 ≤ 8 * 140737488355328 := Nat.mul_le_mul_right _ (by rw [List.length_take]; omega)
            rw [take_snoc hi, List.map_append, List.sum_append] at h5
            simp only [List.map_cons, List.map_nil, List.sum_cons, List.sum_nil, Nat.add_zero] at h5
            rw [take_snoc hi] at h6
            unfold ref20_Small_l30_step
            simp only [dlt hi, cond_true, inB_nat hi, ck_true, rdL_nat t_api_Block bks hi, cond_or, wrap_succ (show i < 9223372036854775807 by omega)]
            rw [wrap64 (by omega) (by omega)]
            cases decide ((bks[i].2.2.2.2.1.length : Int) > 20) || decide ((bks[i].2.2.2.2.2.1.length : Int) > 20) || decide ((bks[i].2.2.2.2.2.2.1.length : Int) > 20) <;> rfl) (fun i n hi hinv n' hn' => by
            cases hc : decide ((bks[i].2.2.2.2.1.length : Int) > 20) || decide ((bks[i].2.2.2.2.2.1.length : Int) > 20) || decide ((bks[i].2.2.2.2.2.2.1.length : Int) > 20) with
            | true => rw [hc] at hn'; cases hn'
            | false =>
              rw [hc] at hn'
              simp only [cond_false, Sum.inr.injEq] at hn'
              rw [take_snoc hi, List.map_append, List.sum_append, ← hn', hinv]
              simp) (fun g n _ => by
            unfold ref20_Small_l30_step
            simp only [dge (Nat.lt_irrefl _), cond_false]) (s0 := (0 : Int)) (by simp)
          have hsum : ∀ (l : List V_api_Block) (i : Nat) (n n' : Int), foldE (fun (_ : Nat) (n : Int) (x : V_api_Block) => bif decide ((x.2.2.2.2.1.length : Int) > 20) || decide ((x.2.2.2.2.2.1.length : Int) > 20) || decide ((x.2.2.2.2.2.2.1.length : Int) > 20) then Sum.inl () else .inr (n + (x.1.length : Int))) i n l = .inr n' → n' = n + (((l.map fun x => x.1.length).sum : Nat) : Int) ∧ ∀ x ∈ l, x.2.2.2.2.2.1.length ≤ 20 := fun l => by
            induction l with
            | nil => intro i n n' h; simp only [foldE, Sum.inr.injEq] at h; exact ⟨by simp [h], fun x hx => by cases hx⟩
            | cons x l ih =>
              intro i n n' h
              simp only [foldE] at h
              cases hc : decide ((x.2.2.2.2.1.length : Int) > 20) || decide ((x.2.2.2.2.2.1.length : Int) > 20) || decide ((x.2.2.2.2.2.2.1.length : Int) > 20) with
              | true => rw [hc] at h; cases h
              | false =>
                rw [hc] at h
                obtain ⟨h7, h8⟩ := ih _ _ _ h
                refine ⟨by simp only [List.map_cons, List.sum_cons]; omega, fun y hy => ?_⟩
                rcases List.mem_cons.1 hy with rfl | hy
                · simp only [Bool.or_eq_false_iff, decide_eq_false_iff_not] at hc
                  omega
                · exact h8 y hy
          rw [show lim ref20_Small_l30_step ((u, r, bs, ls, ret, sgs, bks, ()), (0 : Int), (0 : Int), ()) = _ from l3]
          cases hf : foldE (fun (_ : Nat) (n : Int) (x : V_api_Block) => bif decide ((x.2.2.2.2.1.length : Int) > 20) || decide ((x.2.2.2.2.2.1.length : Int) > 20) || decide ((x.2.2.2.2.2.2.1.length : Int) > 20) then Sum.inl () else .inr (n + (x.1.length : Int))) 0 0 bks with
          | inl _ => exact ⟨_, rfl, fun e => by cases e⟩
          | inr n =>
            obtain ⟨hn, hag⟩ := hsum bks 0 0 n hf
            refine ⟨_, rfl, fun e => ⟨by simp only; omega, by simp only; omega, hty, hret, by simp only; omega, by simp only; omega, ?_, hag⟩⟩
            have := of_decide_eq_true e
            simp only
            omega
end Go.XD


/- Plain law of the package point: New, At, Ends. -/
namespace Go.XD

theorem tab_succ (m : Nat) (g : Nat → Int) : tab (m + 1) g = tab m g ++ [g m] := by
  unfold tab
  rw [List.range_succ, List.map_append]
  rfl
abbrev Blks := List V_api_Block
/-- How many points stand ahead of a block. -/
def PS (B : Blks) (i : Nat) : Nat := ((B.take i).map fun x => x.1.length + 1).sum
theorem PS_zero (B : Blks) : PS B 0 = 0 := by simp [PS]
theorem PS_succ (B : Blks) {i : Nat} (h : i < B.length) : PS B (i + 1) = PS B i + (B[i].1.length + 1) := by
  unfold PS
  rw [take_snoc h, List.map_append, List.sum_append]
  simp
theorem PS_mono (B : Blks) : ∀ {i j : Nat}, i ≤ j → j ≤ B.length → PS B i ≤ PS B j
  | i, 0, h, _ => by rw [Nat.le_zero.1 h]; exact Nat.le_refl _
  | i, j + 1, h, hj => by
    rcases Nat.lt_or_ge i (j + 1) with h' | h'
    · have h1 := PS_mono B (i := i) (j := j) (by omega) (by omega)
      have h2 := PS_succ B (i := j) (by omega)
      omega
    · rw [show i = j + 1 by omega]; exact Nat.le_refl _
theorem PS_strict (B : Blks) {i j : Nat} (h : i < j) (hj : j ≤ B.length) : PS B i < PS B j := by
  have h1 := PS_mono B (i := i + 1) (j := j) h hj
  have h2 := PS_succ B (i := i) (by omega)
  omega
theorem PS_le : ∀ (B : Blks) (i : Nat), PS B i ≤ (B.map fun x => x.1.length).sum + B.length
  | [], i => by simp [PS]
  | x :: B, 0 => by simp [PS]
  | x :: B, i + 1 => by
    have := PS_le B i
    unfold PS at this ⊢
    simp only [List.take_succ_cons, List.map_cons, List.sum_cons, List.length_cons]
    omega
/-- The blocks of a body that is well-formed. -/
def blB (b : V_api_Body) : Blks := bif (chk b).1 == 0 then b.2.2.2.2.2.2.1 else []
structure BOK (B : Blks) : Prop where
  len : B.length ≤ 8
  sum : (B.map fun x => x.1.length).sum ≤ 24
theorem BOK.ps {B : Blks} (h : BOK B) (i : Nat) : PS B i ≤ 32 := by
  have := PS_le B i
  have := h.len
  have := h.sum
  omega
theorem blB_ok {b : V_api_Body} (h : Sml b) : BOK (blB b) := by
  unfold blB
  cases (chk b).1 == 0 with
  | true => exact ⟨h.blk, h.stm⟩
  | false => exact ⟨by simp, by simp⟩
/-- The points of a body. -/
noncomputable def pts (B : Blks) : List Int := tab (B.length + 1) (fun i => (PS B i : Nat))
theorem pNew_loop {B : Blks} (h : BOK B) : lim point_New_l10_step (([(0 : Int)], ()), B, (B.length : Int), (0 : Int), ()) = some (.inl ((pts B, ()), ())) := by
  have e0 : ([(0 : Int)] : List Int) = tab (0 + 1) (fun i => (PS B i : Nat)) := by
    unfold tab
    simp [PS_zero]
  rw [e0]
  refine lim_up (step := point_New_l10_step) (fun i => ((tab (i + 1) (fun i => (PS B i : Nat)), ()), B, (B.length : Int), (i : Int), ())) B.length (fun g i hi => ?_) (fun g => ?_)
  · have h1 := h.ps i
    have h2 := h.ps (i + 1)
    have h3 := PS_succ B hi
    have h8 := h.len
    unfold point_New_l10_step
    simp only [dlt hi, cond_true, inB_nat hi, ck_true, rdL_nat t_api_Block B hi, tab_len]
    rw [show (((i + 1 : Nat) : Int) - 1) = (i : Int) from by omega, wrap64 (n := (i : Int)) (by omega) (by omega), inB_nat (show i < i + 1 by omega), ck_true, Int.toNat_natCast, tab_get (show i < i + 1 by omega)]
    rw [wrap64 (n := ((PS B i : Nat) : Int) + (B[i].1.length : Int)) (by omega) (by omega), wrap64 (by omega) (by omega)]
    rw [show ((PS B i : Nat) : Int) + (B[i].1.length : Int) + 1 = ((PS B (i + 1) : Nat) : Int) from by omega, ← tab_succ, roomB_ok (by simp; omega), ck_true, wrap_succ (by omega)]
  · unfold point_New_l10_step
    simp only [dge (Nat.lt_irrefl _), cond_false]
    rfl
theorem pNew_eq (b : V_api_Body) (h : Sml b) : point_New (b, ()) = some (some (pts (blB b), ()), ()) := by
  have hB := blB_ok h
  unfold point_New
  simp only
  change Option.bind (valid_OK (b, ())) _ = _
  rw [OK_eq b h.small]
  simp only [Option.bind_some]
  unfold blB at hB ⊢
  cases hc : (chk b).1 == 0 with
  | false => rfl
  | true =>
    rw [hc] at hB
    simp only [Bool.not_true, cond_false, cond_true] at hB ⊢
    rw [pNew_loop hB]
    rfl
theorem pLen_eq {B : Blks} (h : BOK B) : point_Points_Len (some (pts B, ()), ()) = some (((PS B B.length : Nat) : Int), ()) := by
  have h8 := h.len
  unfold point_Points_Len pts
  simp only [Option.isNone_some, Option.isSome_some, cond_false, ck_true, Option.getD_some, tab_len]
  rw [show (((B.length + 1 : Nat) : Int) - 1) = (B.length : Int) from by omega, wrap64 (n := (B.length : Int)) (by omega) (by omega), inB_nat (show B.length < B.length + 1 by omega), ck_true, rdL_tab (show B.length < B.length + 1 by omega)]
theorem pBlocks_eq {B : Blks} (h : BOK B) : point_Points_Blocks (some (pts B, ()), ()) = some ((B.length : Int), ()) := by
  have h8 := h.len
  unfold point_Points_Blocks pts
  simp only [Option.isNone_some, Option.isSome_some, cond_false, ck_true, Option.getD_some, tab_len]
  rw [show (((B.length + 1 : Nat) : Int) - 1) = (B.length : Int) from by omega, wrap64 (n := (B.length : Int)) (by omega) (by omega)]
/-! ### At -/
theorem half_eq {i j : Nat} (h : i + j ≤ 100) : IntKind.i64.wrap (shrOf .u64 (IntKind.u64.wrap (IntKind.i64.wrap ((i : Int) + (j : Int)))) 1) = (((i + j) / 2 : Nat) : Int) := by
  have hc : ∀ n : Nat, n ≤ 100 → IntKind.i64.wrap (shrOf .u64 (IntKind.u64.wrap (IntKind.i64.wrap (n : Int))) 1) = ((n / 2 : Nat) : Int) := by decide +kernel
  rw [show (i : Int) + (j : Int) = ((i + j : Nat) : Int) from by omega]
  exact hc _ h
theorem at1_eq {B : Blks} (h : BOK B) {k : Nat} (hk : k < B.length) (n : Int) : point_Points_At_1_p0 ((k : Int), (some (pts B, ()), ()), (n, ()), ()) = some (.inl (decide (((PS B (k + 1) : Nat) : Int) > n), (some (pts B, ()), ()), (n, ()), ())) := by
  have h8 := h.len
  unfold point_Points_At_1_p0 pts
  simp only [Option.isSome_some, ck_true, Option.getD_some, wrap_succ (show k < 9223372036854775807 by omega), tab_len, inB_nat (show k + 1 < B.length + 1 by omega), rdL_tab (show k + 1 < B.length + 1 by omega)]
theorem search_eq {B : Blks} (h : BOK B) {n : Nat} (hn : n < PS B B.length) : ∃ k, k < B.length ∧ PS B k ≤ n ∧ n < PS B (k + 1) ∧ sort_Search_p0 ((B.length : Int), ((some (pts B, ()), ()), ((n : Int), ()), ()), ()) = some (.inl ((k : Int), ((some (pts B, ()), ()), ((n : Int), ()), ()), ())) := by
  have h8 := h.len
  have hex := lim_ex (step := sort_Search_p0_l4_step) (x := (((some (pts B, ()), ()), ((n : Int), ()), ()), (0 : Int), (B.length : Int), ()))
    (fun x => ∃ i j : Nat, x = (((some (pts B, ()), ()), ((n : Int), ()), ()), (i : Int), (j : Int), ()) ∧ i ≤ j ∧ j ≤ B.length ∧ PS B i ≤ n ∧ (j < B.length → n < PS B (j + 1)))
    (fun x => (x.2.2.1 - x.2.1).toNat) (fun y => ∃ k, k < B.length ∧ PS B k ≤ n ∧ n < PS B (k + 1) ∧ y = .inl ((k : Int), ((some (pts B, ()), ()), ((n : Int), ()), ()), ())) (fun x hx => ?_) ⟨0, B.length, rfl, by omega, by omega, by rw [PS_zero]; omega, fun h => by omega⟩
  · obtain ⟨y, ⟨k, k1, k2, k3, rfl⟩, hl⟩ := hex
    refine ⟨k, k1, k2, k3, ?_⟩
    unfold sort_Search_p0
    simp only
    rw [hl]
    rfl
  · obtain ⟨i, j, rfl, hij, hj, hi1, hj1⟩ := hx
    rcases Nat.lt_or_ge i j with hlt | hge
    · right
      have hm : (i + j) / 2 < j := by omega
      have hm2 : i ≤ (i + j) / 2 := by omega
      by_cases hp : n < PS B ((i + j) / 2 + 1)
      · refine ⟨_, ⟨i, (i + j) / 2, rfl, hm2, by omega, hi1, fun _ => hp⟩, by simp only; omega, fun g => ?_⟩
        unfold sort_Search_p0_l4_step sort_Search_p0_j43_v
        simp only [dlt hlt, cond_true, half_eq (show i + j ≤ 100 by omega), at1_eq h (show (i + j) / 2 < B.length by omega), Option.bind_some, out1_inl]
        rw [show decide ((0 : Int) ≤ (1 : Int)) = true from rfl, ck_true, show decide (((PS B ((i + j) / 2 + 1) : Nat) : Int) > (n : Int)) = true from by simp; omega]
        rfl
      · refine ⟨_, ⟨(i + j) / 2 + 1, j, rfl, by omega, hj, by omega, hj1⟩, by simp only; omega, fun g => ?_⟩
        unfold sort_Search_p0_l4_step sort_Search_p0_j43_v
        simp only [dlt hlt, cond_true, half_eq (show i + j ≤ 100 by omega), at1_eq h (show (i + j) / 2 < B.length by omega), Option.bind_some, out1_inl]
        rw [show decide ((0 : Int) ≤ (1 : Int)) = true from rfl, ck_true, show decide (((PS B ((i + j) / 2 + 1) : Nat) : Int) > (n : Int)) = false from by simp; omega]
        simp only [Bool.not_false, cond_true, Option.bind_some, out1_inl, wrap_succ (show (i + j) / 2 < 9223372036854775807 by omega)]
    · left
      have : i = j := by omega
      subst this
      have hi : i < B.length := by
        rcases Nat.lt_or_ge i B.length with h | h
        · exact h
        · rw [show i = B.length by omega] at hi1
          omega
      refine ⟨_, ⟨i, hi, hi1, hj1 hi, rfl⟩, fun g => ?_⟩
      unfold sort_Search_p0_l4_step
      simp only [dge (Nat.lt_irrefl _), cond_false]
theorem pAt_eq {B : Blks} (h : BOK B) {n : Nat} (hn : n < PS B B.length) : ∃ k, k < B.length ∧ PS B k ≤ n ∧ n < PS B (k + 1) ∧ point_Points_At (some (pts B, ()), (n : Int), ()) = some ((k : Int), ((n - PS B k : Nat) : Int), true, ()) := by
  obtain ⟨k, k1, k2, k3, hs⟩ := search_eq h hn
  have h8 := h.len
  have hp := h.ps k
  have hp2 := h.ps B.length
  refine ⟨k, k1, k2, k3, ?_⟩
  unfold point_Points_At
  simp only [pLen_eq h, pBlocks_eq h, Option.bind_some]
  rw [show decide ((n : Int) < 0) = false from by simp, show decide ((n : Int) ≥ ((PS B B.length : Nat) : Int)) = false from by simp; omega]
  simp only [Bool.not_false, cond_true, cond_false]
  rw [hs]
  simp only [Option.bind_some, out1_inl, Option.isSome_some, ck_true, Option.getD_some]
  rw [show (pts B).length = B.length + 1 from tab_len _ _, inB_nat (show k < B.length + 1 by omega), ck_true]
  unfold pts
  rw [rdL_tab (show k < B.length + 1 by omega), wrap64 (by omega) (by omega), show (n : Int) - ((PS B k : Nat) : Int) = ((n - PS B k : Nat) : Int) from by omega]
theorem pAt_out {B : Blks} (h : BOK B) {n : Int} (hn : n < 0 ∨ n ≥ ((PS B B.length : Nat) : Int)) : point_Points_At (some (pts B, ()), n, ()) = some (0, 0, false, ()) := by
  unfold point_Points_At
  simp only [pLen_eq h, Option.bind_some]
  by_cases h0 : n < 0
  · rw [decide_eq_true h0]; rfl
  · rw [decide_eq_false h0, decide_eq_true (by omega : n ≥ ((PS B B.length : Nat) : Int))]; rfl

/-! ### Ends, Of -/
theorem len_at {B : Blks} {k : Nat} (hk : k < B.length) : ((B[k]?.map fun x => x.1.length).getD 0) + 1 + PS B k = PS B (k + 1) := by
  rw [PS_succ B hk]
  simp [hk]
  omega
theorem pEnds_eq {B : Blks} (h : BOK B) {n : Nat} {k : Nat} (k1 : k < B.length) (k2 : PS B k ≤ n) (k3 : n < PS B (k + 1)) (ha : point_Points_At (some (pts B, ()), (n : Int), ()) = some ((k : Int), ((n - PS B k : Nat) : Int), true, ())) : point_Points_Ends (some (pts B, ()), (n : Int), ()) = some (((n - PS B k : Nat) : Int) == (((PS B (k + 1) - PS B k - 1 : Nat)) : Int), ()) := by
  have h8 := h.len
  have hp := h.ps k
  have hp2 := h.ps (k + 1)
  have hm := PS_strict B (i := k) (j := k + 1) (by omega) (by omega)
  unfold point_Points_Ends
  simp only [ha, Option.bind_some, Option.isSome_some, Bool.true_or, ck_true, Option.getD_some, wrap_succ (show k < 9223372036854775807 by omega)]
  rw [show (pts B).length = B.length + 1 from tab_len _ _, inB_nat (show k + 1 < B.length + 1 by omega), inB_nat (show k < B.length + 1 by omega)]
  simp only [Bool.true_or, ck_true, cond_true]
  unfold pts
  rw [rdL_tab (show k < B.length + 1 by omega), rdL_tab (show k + 1 < B.length + 1 by omega), wrap64 (n := ((PS B (k + 1) : Nat) : Int) - ((PS B k : Nat) : Int)) (by omega) (by omega), wrap64 (by omega) (by omega), show ((PS B (k + 1) : Nat) : Int) - ((PS B k : Nat) : Int) - 1 = ((PS B (k + 1) - PS B k - 1 : Nat) : Int) from by omega]
theorem pEnds_out {B : Blks} (h : BOK B) {n : Int} (hn : n < 0 ∨ n ≥ ((PS B B.length : Nat) : Int)) : point_Points_Ends (some (pts B, ()), n, ()) = some (false, ()) := by
  unfold point_Points_Ends
  simp only [pAt_out h hn, Option.bind_some, Bool.not_false, Bool.or_true, ck_true, cond_false]
/-- Each point, by its block and its place. -/
theorem pt_of {B : Blks} {n : Nat} (hn : n < PS B B.length) : ∃ k, k < B.length ∧ PS B k ≤ n ∧ n < PS B (k + 1) := by
  have key : ∀ m, m ≤ B.length → n < PS B m → ∃ k, k < m ∧ PS B k ≤ n ∧ n < PS B (k + 1) := fun m => by
    induction m with
    | zero => intro _ h; rw [PS_zero] at h; omega
    | succ m ih =>
      intro hm h
      rcases Nat.lt_or_ge n (PS B m) with h' | h'
      · obtain ⟨k, k1, k2, k3⟩ := ih (by omega) h'
        exact ⟨k, by omega, k2, k3⟩
      · exact ⟨m, by omega, h', h⟩
  exact key B.length (Nat.le_refl _) hn
end Go.XD


/- Plain law of the reference's points. -/
namespace Go.XD

/-! ### The reference's points -/
abbrev Pt := V_easementref22_Point
def rowP (i n : Nat) : List Pt := (List.range (n + 1)).map fun (k : Nat) => ((i : Int), (k : Int), (k : Int) == (n : Int), ())
def aP (B : Blks) : Nat → List Pt
  | 0 => []
  | i + 1 => aP B i ++ (match B[i]? with
    | some x => rowP i x.1.length
    | none => [])
theorem aP_succ (B : Blks) {i : Nat} (h : i < B.length) : aP B (i + 1) = aP B i ++ rowP i B[i].1.length := by
  simp only [aP, List.getElem?_eq_getElem h]
theorem aP_len (B : Blks) : ∀ {i : Nat}, i ≤ B.length → (aP B i).length = PS B i
  | 0, _ => by simp [aP, PS]
  | i + 1, h => by
    rw [aP_succ B (by omega), List.length_append, aP_len B (by omega), PS_succ B (by omega)]
    simp [rowP]
theorem aP_at (B : Blks) : ∀ {m i k : Nat}, m ≤ B.length → (hi : i < m) → (hk : k ≤ (B[i]?.map fun x => x.1.length).getD 0) → (aP B m)[PS B i + k]? = some ((i : Int), (k : Int), (k : Int) == (((B[i]?.map fun x => x.1.length).getD 0 : Nat) : Int), ())
  | 0, i, k, _, hi, _ => by omega
  | m + 1, i, k, hm, hi, hk => by
    have hiB : i < B.length := by omega
    rw [aP_succ B (by omega)]
    have e : (B[i]?.map fun x => x.1.length).getD 0 = B[i].1.length := by simp [hiB]
    rcases Nat.lt_or_ge i m with h | h
    · rw [List.getElem?_append_left]
      · exact aP_at B (by omega) h hk
      · rw [aP_len B (by omega)]
        have h1 := PS_mono B (i := i + 1) (j := m) h (by omega)
        have h2 := PS_succ B hiB
        omega
    · have : i = m := by omega
      subst this
      rw [List.getElem?_append_right (by rw [aP_len B (by omega)]; omega), aP_len B (by omega), show PS B i + k - PS B i = k by omega, e]
      unfold rowP
      rw [e] at hk
      rw [List.getElem?_map, List.getElem?_range (by omega)]
      rfl
theorem row_loop (l : List Pt) (i n : Nat) (hn : n ≤ 24) (hl : l.length ≤ 1000) : lim ref22_All_l18_step (l, (i : Int), (n : Int), (0 : Int), ()) = some (.inl (l ++ rowP i n, ())) := by
  have := lim_up (step := ref22_All_l18_step) (y := .inl (l ++ rowP i n, ())) (fun k => (l ++ (List.range k).map (fun (k : Nat) => ((i : Int), (k : Int), (k : Int) == (n : Int), ())), (i : Int), (n : Int), (k : Int), ())) (n + 1) (fun g k hk => ?_) (fun g => ?_)
  · simpa using this
  · unfold ref22_All_l18_step
    rw [show decide ((k : Int) ≤ (n : Int)) = true from by simp; omega, cond_true]
    simp only
    rw [roomB_ok (by simp; omega), ck_true, wrap_succ (by omega), List.range_succ, List.map_append, List.append_assoc]
    rfl
  · unfold ref22_All_l18_step
    rw [show decide ((((n + 1 : Nat) : Int)) ≤ (n : Int)) = false from by simp; omega, cond_false]
    rfl

theorem all_loop (b : V_api_Body) (h : BOK b.2.2.2.2.2.2.1) : lim ref22_All_l10_step (b, ([] : List Pt), (0 : Int), ()) = some (.inl (aP b.2.2.2.2.2.2.1 b.2.2.2.2.2.2.1.length, b, ())) := by
  refine lim_up (step := ref22_All_l10_step) (fun i => (b, aP b.2.2.2.2.2.2.1 i, (i : Int), ())) b.2.2.2.2.2.2.1.length (fun g i hi => ?_) (fun g => ?_)
  · have h1 := h.ps (i + 1)
    have h2 := PS_succ b.2.2.2.2.2.2.1 hi
    have h3 := h.len
    have h4 := aP_len b.2.2.2.2.2.2.1 (i := i) (by omega)
    unfold ref22_All_l10_step
    simp only [dlt hi, cond_true, inB_nat hi, ck_true, rdL_nat t_api_Block b.2.2.2.2.2.2.1 hi, wrap_succ (show i < 9223372036854775807 by omega)]
    have hp : b.2.2.2.2.2.2.1[i].1.length ≤ 24 := by
      have := h.sum
      have h5 : ∀ l : Blks, ∀ x ∈ l, x.1.length ≤ (l.map fun x => x.1.length).sum := fun l => by
        induction l with
        | nil => intro x h; cases h
        | cons y l ih =>
          intro x h
          simp only [List.map_cons, List.sum_cons]
          rcases List.mem_cons.1 h with rfl | h
          · omega
          · have := ih x h; omega
      exact Nat.le_trans (h5 _ _ (List.getElem_mem hi)) this
    rw [row_loop _ i _ hp (by omega)]
    simp only [Option.bind_some, out1_inl]
    rw [aP_succ _ hi]
  · unfold ref22_All_l10_step
    simp only [dge (Nat.lt_irrefl _), cond_false]
theorem All_eq (b : V_api_Body) (h : Sml b) : ref22_All (b, ()) = some (aP (blB b) (blB b).length, ()) := by
  have hB := blB_ok h
  unfold ref22_All
  simp only
  change Option.bind (ref21_OK (b, ())) _ = _
  rw [rOK_eq b h.small]
  simp only [Option.bind_some]
  unfold blB at hB ⊢
  cases hc : (chk b).1 == 0 with
  | false => rfl
  | true =>
    rw [hc] at hB
    simp only [Bool.not_true, cond_false, cond_true] at hB ⊢
    change Option.bind (lim ref22_All_l10_step (b, ([] : List Pt), (0 : Int), ())) _ = _
    rw [all_loop b hB]
    rfl

theorem aP_get {B : Blks} {n k : Nat} (k1 : k < B.length) (k2 : PS B k ≤ n) (k3 : n < PS B (k + 1)) : (aP B B.length)[n]? = some ((k : Int), ((n - PS B k : Nat) : Int), ((n - PS B k : Nat) : Int) == ((PS B (k + 1) - PS B k - 1 : Nat) : Int), ()) := by
  have h1 := len_at k1
  have h2 := aP_at B (m := B.length) (i := k) (k := n - PS B k) (Nat.le_refl _) k1 (by omega)
  rw [show PS B k + (n - PS B k) = n by omega] at h2
  rw [h2, show PS B (k + 1) - PS B k - 1 = (B[k]?.map fun x => x.1.length).getD 0 by omega]
end Go.XD


/- Plain law of the package point: Of. -/
namespace Go.XD

/-- Is there such a place? -/
def inP (B : Blks) (bl ix : Int) : Prop := 0 ≤ bl ∧ bl < B.length ∧ 0 ≤ ix ∧ ix < (PS B (bl.toNat + 1) : Int) - PS B bl.toNat
theorem pOf_in {B : Blks} (h : BOK B) {bl ix : Int} (hi : inP B bl ix) : point_Points_Of (some (pts B, ()), bl, ix, ()) = some (((PS B bl.toNat : Nat) : Int) + ix, true, ()) := by
  obtain ⟨h1, h2, h3, h4⟩ := hi
  have h8 := h.len
  obtain ⟨k, rfl⟩ : ∃ k : Nat, bl = k := ⟨bl.toNat, by omega⟩
  rw [Int.toNat_natCast] at h4 ⊢
  have hp := h.ps k
  have hp2 := h.ps (k + 1)
  unfold point_Points_Of
  simp only [pBlocks_eq h, Option.bind_some, cond_or]
  rw [show decide ((k : Int) < 0) = false from by simp, show (decide ((k : Int) ≥ (B.length : Int)) || decide (ix < 0)) = false from by simp; omega]
  simp only [Bool.not_false, cond_true, Option.isSome_some, Bool.true_or, ck_true, Option.getD_some, wrap_succ (show k < 9223372036854775807 by omega), Bool.false_or]
  rw [show (pts B).length = B.length + 1 from tab_len _ _, inB_nat (show k + 1 < B.length + 1 by omega), inB_nat (show k < B.length + 1 by omega)]
  simp only [Bool.true_or, ck_true]
  unfold pts
  rw [rdL_tab (show k < B.length + 1 by omega), rdL_tab (show k + 1 < B.length + 1 by omega), wrap64 (n := ((PS B (k + 1) : Nat) : Int) - ((PS B k : Nat) : Int)) (by omega) (by omega), show decide (ix ≥ ((PS B (k + 1) : Nat) : Int) - ((PS B k : Nat) : Int)) = false from by simp; omega]
  simp only [cond_false]
  rw [wrap64 (by omega) (by omega)]
theorem pOf_out {B : Blks} (h : BOK B) {bl ix : Int} (hi : ¬ inP B bl ix) : point_Points_Of (some (pts B, ()), bl, ix, ()) = some (0, false, ()) := by
  have h8 := h.len
  unfold point_Points_Of
  simp only [pBlocks_eq h, Option.bind_some, cond_or]
  by_cases h1 : bl < 0
  · rw [decide_eq_true h1]
    simp only [Bool.not_true, cond_false, Bool.not_false, Bool.or_true, ck_true]
  · rw [decide_eq_false h1]
    obtain ⟨k, rfl⟩ : ∃ k : Nat, bl = k := ⟨bl.toNat, by omega⟩
    simp only [Bool.not_false, cond_true, Option.isSome_some, Bool.true_or, ck_true, Option.getD_some]
    cases hc : (decide ((k : Int) ≥ (B.length : Int)) || decide (ix < 0)) with
    | true => simp only [Bool.not_true, Bool.not_false, Bool.or_true, ck_true, Bool.true_or, cond_true]
    | false =>
      simp only [Bool.or_eq_false_iff, decide_eq_false_iff_not] at hc
      have hk : k < B.length := by omega
      have hp := h.ps k
      have hp2 := h.ps (k + 1)
      rw [wrap_succ (show k < 9223372036854775807 by omega), show (pts B).length = B.length + 1 from tab_len _ _, inB_nat (show k + 1 < B.length + 1 by omega), inB_nat (show k < B.length + 1 by omega)]
      simp only [Bool.true_or, ck_true, Bool.false_or]
      unfold pts
      simp only [rdL_tab (show k < B.length + 1 by omega), rdL_tab (show k + 1 < B.length + 1 by omega), wrap64 (n := ((PS B (k + 1) : Nat) : Int) - ((PS B k : Nat) : Int)) (by omega) (by omega)]
      rw [show decide (ix ≥ ((PS B (k + 1) : Nat) : Int) - ((PS B k : Nat) : Int)) = true from by
        rw [decide_eq_true_eq]
        unfold inP at hi
        rw [Int.toNat_natCast] at hi
        omega]
      rfl
theorem rOf_eq {B : Blks} (h : BOK B) (bl ix : Int) : (inP B bl ix → ref22_Of (aP B B.length, bl, ix, ()) = some (((PS B bl.toNat : Nat) : Int) + ix, true, ())) ∧ (¬ inP B bl ix → ref22_Of (aP B B.length, bl, ix, ()) = some (0, false, ())) := by
  have hL : (aP B B.length).length = PS B B.length := aP_len B (Nat.le_refl _)
  have h32 := h.ps B.length
  have step : ∀ g i, (hi : i < (aP B B.length).length) → ref22_Of_l4_step g (aP B B.length, bl, ix, (i : Int), ()) = bif ((aP B B.length)[i].1 == bl) && ((aP B B.length)[i].2.1 == ix) then some (.inl ((i : Int), true, ())) else g (aP B B.length, bl, ix, ((i + 1 : Nat) : Int), ()) := fun g i hi => by
    unfold ref22_Of_l4_step
    simp only [dlt hi, cond_true, inB_nat hi, ck_true, Bool.true_or, rdL_nat t_easementref22_Point (aP B B.length) hi, cond_and, wrap_succ (show i < 9223372036854775807 by omega)]
  have at' : ∀ i, (hi : i < (aP B B.length).length) → ∃ k, k < B.length ∧ PS B k ≤ i ∧ i < PS B (k + 1) ∧ (aP B B.length)[i].1 = (k : Int) ∧ (aP B B.length)[i].2.1 = ((i - PS B k : Nat) : Int) := fun i hi => by
    obtain ⟨k, k1, k2, k3⟩ := pt_of (by rw [← hL]; exact hi)
    have := aP_get k1 k2 k3
    rw [List.getElem?_eq_getElem hi] at this
    simp only [Option.some.injEq] at this
    exact ⟨k, k1, k2, k3, by rw [this], by rw [this]⟩
  constructor
  · rintro ⟨h1, h2, h3, h4⟩
    obtain ⟨k, rfl⟩ : ∃ k : Nat, bl = k := ⟨bl.toNat, by omega⟩
    obtain ⟨j, rfl⟩ : ∃ j : Nat, ix = j := ⟨ix.toNat, by omega⟩
    rw [Int.toNat_natCast] at h4 ⊢
    have hk : k < B.length := by omega
    have hmm := PS_mono B (i := k + 1) (j := B.length) hk (Nat.le_refl _)
    have hlt : PS B k + j < (aP B B.length).length := by omega
    have l1 : lim ref22_Of_l4_step (aP B B.length, (k : Int), (j : Int), (0 : Int), ()) = some (.inl (((PS B k + j : Nat) : Int), true, ())) := by
      refine lim_up (step := ref22_Of_l4_step) (fun i => (aP B B.length, (k : Int), (j : Int), (i : Int), ())) (PS B k + j) (fun g i hi => ?_) (fun g => ?_)
      · obtain ⟨k', q1, q2, q3, q4, q5⟩ := at' i (by omega)
        rw [step g i (by omega), q4, q5]
        have : (((k' : Int) == (k : Int)) && (((i - PS B k' : Nat) : Int) == (j : Int))) = false := by
          rw [Bool.and_eq_false_iff]
          by_cases e : k' = k
          · subst e
            exact .inr (beq_eq_false_iff_ne.2 (by omega))
          · exact .inl (beq_eq_false_iff_ne.2 (by omega))
        rw [this]
        rfl
      · obtain ⟨k', q1, q2, q3, q4, q5⟩ := at' (PS B k + j) hlt
        have : k' = k := by
          rcases Nat.lt_trichotomy k' k with h' | h' | h'
          · have := PS_mono B (i := k' + 1) (j := k) h' (by omega); omega
          · exact h'
          · have := PS_mono B (i := k + 1) (j := k') h' (by omega); omega
        subst this
        rw [step g _ hlt, q4, q5, show PS B k' + j - PS B k' = j by omega]
        simp
    unfold ref22_Of
    simp only
    rw [l1]
    simp only [Option.bind_some, out2_inl]
    rw [show ((PS B k + j : Nat) : Int) = ((PS B k : Nat) : Int) + (j : Int) from by omega]
  · intro hn
    have l1 : lim ref22_Of_l4_step (aP B B.length, bl, ix, (0 : Int), ()) = some (.inr (.inl ())) := by
      refine lim_up (step := ref22_Of_l4_step) (fun i => (aP B B.length, bl, ix, (i : Int), ())) (aP B B.length).length (fun g i hi => ?_) (fun g => ?_)
      · obtain ⟨k', q1, q2, q3, q4, q5⟩ := at' i hi
        rw [step g i hi, q4, q5]
        have : (((k' : Int) == bl) && (((i - PS B k' : Nat) : Int) == ix)) = false := by
          rw [Bool.eq_false_iff]
          intro hc
          simp only [Bool.and_eq_true, beq_iff_eq] at hc
          obtain ⟨c1, c2⟩ := hc
          apply hn
          subst c1 c2
          refine ⟨by omega, by omega, by omega, ?_⟩
          rw [Int.toNat_natCast]
          omega
        rw [this]
        rfl
      · unfold ref22_Of_l4_step
        simp only [dge (Nat.lt_irrefl _), cond_false]
    unfold ref22_Of
    simp only
    rw [l1]
    rfl
end Go.XD


/- Plain words: sets of whole numbers as rising lists. -/
namespace Go.XD

/-- Rising. -/
abbrev Ris (l : List Int) : Prop := l.Pairwise (· < ·)
theorem Ris.head {x : Int} {l : List Int} (h : Ris (x :: l)) : ∀ y ∈ l, x < y := (List.pairwise_cons.1 h).1
theorem ris_unique : ∀ {a b : List Int}, Ris a → Ris b → (∀ x, x ∈ a ↔ x ∈ b) → a = b
  | [], [], _, _, _ => rfl
  | [], y :: b, _, _, h => absurd ((h y).2 List.mem_cons_self) (by simp)
  | x :: a, [], _, _, h => absurd ((h x).1 List.mem_cons_self) (by simp)
  | x :: a, y :: b, ha, hb, h => by
    have h1 := ha.head
    have h2 := hb.head
    have e : x = y := by
      have hx := (h x).1 List.mem_cons_self
      have hy := (h y).2 List.mem_cons_self
      rcases List.mem_cons.1 hx with e | hx
      · exact e
      · rcases List.mem_cons.1 hy with e | hy
        · exact e.symm
        · have := h1 y hy
          have := h2 x hx
          omega
    subst e
    rw [ris_unique (List.pairwise_cons.1 ha).2 (List.pairwise_cons.1 hb).2 (fun z => ?_)]
    constructor
    · intro hz
      rcases List.mem_cons.1 ((h z).1 (List.mem_cons_of_mem _ hz)) with e | hz'
      · have := h1 z hz; omega
      · exact hz'
    · intro hz
      rcases List.mem_cons.1 ((h z).2 (List.mem_cons_of_mem _ hz)) with e | hz'
      · have := h2 z hz; omega
      · exact hz'
theorem srt_mem {l : List Int} {x : Int} : x ∈ srt l ↔ x ∈ l := by simp [srt]
theorem srt_sorted (l : List Int) : (srt l).Pairwise (· ≤ ·) := by
  have := List.pairwise_mergeSort (le := fun x y : Int => decide (x ≤ y)) (fun a b c h1 h2 => by simp at *; omega) (fun a b => by simp; omega) l
  exact this.imp (by simp)
theorem srt_le {l : List Int} {i j : Nat} (hij : i ≤ j) (hj : j < (srt l).length) : (srt l)[i]'(Nat.lt_of_le_of_lt hij hj) ≤ (srt l)[j] := by
  rcases Nat.eq_or_lt_of_le hij with e | h
  · subst e; exact Int.le_refl _
  · exact List.pairwise_iff_getElem.1 (srt_sorted l) i j (by omega) hj h
theorem arr_get {l : List Int} {i : Nat} (h : i < l.length) : l.toArray[i]! = l[i] := by simp [getElem!_def, h]
/-- The members of a list, rising. -/
def rset (l : List Int) : List Int := cpt (srt l)
theorem rset_mem {l : List Int} {x : Int} : x ∈ rset l ↔ x ∈ l := by
  constructor
  · intro h; exact srt_mem.1 (cpt_mem h)
  · intro h
    have h := srt_mem.2 h
    -- the first place of x is kept
    have key : ∀ n, (∃ i, ∃ hi : i < (srt l).length, i ≤ n ∧ (srt l)[i] = x) → ∃ i, ∃ hi : i < (srt l).length, (srt l)[i] = x ∧ (i = 0 ∨ ∀ h : i - 1 < (srt l).length, (srt l)[i - 1] ≠ x) := by
      intro n
      induction n with
      | zero =>
        rintro ⟨i, hi, hn, he⟩
        exact ⟨i, hi, he, .inl (by omega)⟩
      | succ n ih =>
        rintro ⟨i, hi, hn, he⟩
        by_cases hp : ∃ h : i - 1 < (srt l).length, (srt l)[i - 1] = x
        · rcases Nat.eq_zero_or_pos i with h0 | h0
          · exact ⟨i, hi, he, .inl h0⟩
          · obtain ⟨h1, h2⟩ := hp
            exact ih ⟨i - 1, h1, by omega, h2⟩
        · exact ⟨i, hi, he, .inr (fun h1 h2 => hp ⟨h1, h2⟩)⟩
    obtain ⟨i0, hi0, he0⟩ := List.getElem_of_mem h
    obtain ⟨i, hi, he, hk⟩ := key i0 ⟨i0, hi0, Nat.le_refl _, he0⟩
    unfold rset cpt Lib.compact Lib.compactUpTo
    refine List.mem_map.2 ⟨i, List.mem_filter.2 ⟨List.mem_range.2 hi, ?_⟩, ?_⟩
    · unfold Lib.keeps
      rw [decide_eq_true_eq]
      rcases hk with hk | hk
      · exact .inl hk
      · refine .inr ?_
        rw [arr_get hi, arr_get (by omega), he]
        exact (hk (by omega)).symm
    · rw [arr_get hi]; exact he
theorem rset_ris (l : List Int) : Ris (rset l) := by
  unfold rset cpt Lib.compact Lib.compactUpTo Ris
  rw [List.pairwise_map]
  have h0 : ((List.range (srt l).length).filter (Lib.keeps (srt l).toArray)).Pairwise (· < ·) := List.Pairwise.sublist List.filter_sublist List.pairwise_lt_range
  refine List.Pairwise.imp_of_mem (fun {a b} ha hb hab => ?_) h0
  have hb' := List.mem_filter.1 hb
  have hbl := List.mem_range.1 hb'.1
  have hk := hb'.2
  unfold Lib.keeps at hk
  rw [decide_eq_true_eq] at hk
  rcases hk with hk | hk
  · omega
  · rw [arr_get hbl, arr_get (by omega)] at hk
    rw [arr_get hbl, arr_get (by omega)]
    have h1 := srt_le (l := l) (i := a) (j := b - 1) (by omega) (by omega)
    have h2 := srt_le (l := l) (i := b - 1) (j := b) (by omega) hbl
    omega
theorem rset_eq {l m : List Int} (h : Ris m) (hm : ∀ x, x ∈ m ↔ x ∈ l) : rset l = m := ris_unique (rset_ris l) h (fun x => rset_mem.trans (hm x).symm)
theorem rset_len (l : List Int) : (rset l).length ≤ l.length := by
  have := cpt_len (srt l)
  rw [srt_len] at this
  exact this
/-- A list without twins among another's members is no longer. -/
theorem sub_len : ∀ {a b : List Int}, a.Nodup → (∀ x ∈ a, x ∈ b) → a.length ≤ b.length
  | [], b, _, _ => Nat.zero_le _
  | x :: a, b, hn, hs => by
    have hn' := List.nodup_cons.1 hn
    have h1 : x ∈ b := hs x List.mem_cons_self
    have := sub_len (a := a) (b := b.erase x) hn'.2 (fun y hy => (List.mem_erase_of_ne (fun e => hn'.1 (by rw [← e]; exact hy))).2 (hs y (List.mem_cons_of_mem _ hy)))
    rw [List.length_erase_of_mem h1] at this
    have hp : 0 < b.length := List.length_pos_of_mem h1
    simp only [List.length_cons]
    omega
theorem Ris.nodup {l : List Int} (h : Ris l) : l.Nodup := List.Pairwise.imp (fun h e => by omega) h
theorem full_mem {a b : List Int} (hn : a.Nodup) (hs : ∀ x ∈ a, x ∈ b) (hl : b.length ≤ a.length) : ∀ x ∈ b, x ∈ a := fun x hx => by
  by_cases h : x ∈ a
  · exact h
  · have := sub_len (a := x :: a) (b := b) (List.nodup_cons.2 ⟨h, hn⟩) (fun y hy => by
      rcases List.mem_cons.1 hy with e | hy
      · rw [e]; exact hx
      · exact hs y hy)
    simp only [List.length_cons] at this
    omega
end Go.XD


/- What a well-formed body's statements and terminators are. -/
namespace Go.XD

theorem thn_zero {f g : Flt} (h : (thn f g).1 = 0) : f.1 = 0 ∧ g.1 = 0 := by
  unfold thn at h
  cases hf : f.1 != 0 with
  | true => rw [hf] at h; rw [cond_true] at h; rw [h] at hf; cases hf
  | false => rw [hf] at h; exact ⟨by simpa using hf, h⟩
theorem ffi_zero {α : Type} (g : Nat → α → Flt) : ∀ (l : List α) (i : Nat), (ffi g i l).1 = 0 → ∀ j (hj : j < l.length), (g (i + j) l[j]).1 = 0
  | [], _, _, j, hj => by simp at hj
  | x :: l, i, h, j, hj => by
    unfold ffi at h
    cases hf : (g i x).1 != 0 with
    | true => rw [hf] at h; rw [cond_true] at h; rw [h] at hf; cases hf
    | false =>
      rw [hf] at h
      cases j with
      | zero => simpa using hf
      | succ j =>
        have := ffi_zero g l (i + 1) h j (by simpa using hj)
        rw [show i + (j + 1) = i + 1 + j by omega]
        exact this
/-- A well-formed body. -/
structure WF (b : V_api_Body) : Prop where
  st : ∀ x ∈ b.2.2.2.2.2.2.1, ∀ s ∈ x.1, (stS s b.2.2.2.1 b.2.1).2.1 = 0
  tm : ∀ x ∈ b.2.2.2.2.2.2.1, (teS x.2 (ard b)).2.1 = 0
theorem wf_of {b : V_api_Body} (h : ((chk b).1 == 0) = true) : WF b := by
  have h0 : (chk b).1 = 0 := by simpa using h
  unfold chk at h0
  obtain ⟨_, h1⟩ := thn_zero h0
  obtain ⟨_, h2⟩ := thn_zero h1
  unfold bF at h2
  obtain ⟨_, h3⟩ := thn_zero h2
  obtain ⟨_, h4⟩ := thn_zero h3
  have key := ffi_zero _ _ _ h4
  refine ⟨fun x hx s hs => ?_, fun x hx => ?_⟩
  · obtain ⟨k, hk, rfl⟩ := List.getElem_of_mem hx
    have h5 := key k hk
    unfold blkG at h5
    obtain ⟨h6, _⟩ := thn_zero h5
    obtain ⟨j, hj, rfl⟩ := List.getElem_of_mem hs
    exact ffi_zero _ _ _ h6 j hj
  · obtain ⟨k, hk, rfl⟩ := List.getElem_of_mem hx
    have h5 := key k hk
    unfold blkG at h5
    obtain ⟨_, h6⟩ := thn_zero h5
    cases he : (teS (b.2.2.2.2.2.2.1[k]).2 (ard b)).2.1 != 0 with
    | true => rw [he] at h6; rw [cond_true] at h6; simp only at h6; rw [h6] at he; cases he
    | false => simpa using he
theorem stS_ok {s : V_api_Prov} {ls : List V_api_Type} {r : Int} (h : (stS s ls r).2.1 = 0) : (0 ≤ s.1 ∧ s.1 ≤ 5) ∧ (dstK s.1 = true → 0 ≤ s.2.1 ∧ s.2.1 < ls.length) ∧ (srcK s.1 = true → 0 ≤ s.2.2.1 ∧ s.2.2.1 < ls.length) := by
  unfold stS at h
  cases h1 : stF s with
  | false => rw [h1] at h; cases h
  | true =>
    rw [h1] at h
    cases h2 : stO s ls r with
    | true => rw [h2] at h; cases h
    | false =>
      unfold stF at h1
      simp only [Bool.and_eq_true, decide_eq_true_eq] at h1
      unfold stO at h2
      simp only [Bool.or_eq_false_iff] at h2
      refine ⟨h1.1, fun hd => ?_, fun hd => ?_⟩
      · have := h2.1.1
        rw [hd, Bool.true_and] at this
        unfold outB at this
        simp only [Bool.or_eq_false_iff, decide_eq_false_iff_not] at this
        omega
      · have := h2.1.2
        rw [hd, Bool.true_and] at this
        unfold outB at this
        simp only [Bool.or_eq_false_iff, decide_eq_false_iff_not] at this
        omega
theorem teS_ok {t : V_api_Term} {a : V_term_Around} (h : (teS t a).2.1 = 0) : (1 ≤ t.1 ∧ t.1 ≤ 4) ∧ (∀ i ∈ t.2.2.2.1, 0 ≤ i ∧ i < a.1) ∧ (∀ i ∈ t.2.2.2.2.1, 0 ≤ i ∧ i < a.2.2.1.length) ∧ (t.1 = 4 → 0 ≤ t.2.2.1 ∧ t.2.2.1 < a.2.2.1.length) ∧ (t.1 = 3 → 0 < a.2.2.1.length) := by
  unfold teS at h
  cases h1 : teF t != 0 with
  | true => rw [h1] at h; simp only [cond_true] at h; rw [h] at h1; cases h1
  | false =>
    rw [h1] at h
    cases h2 : teO t a with
    | true => rw [h2] at h; cases h
    | false =>
      rw [h2] at h
      simp only [cond_false] at h
      have hf : teF t = 0 := by simpa using h1
      have hk : 1 ≤ t.1 ∧ t.1 ≤ 4 := by
        unfold teF at hf
        cases hc : decide (t.1 < 1) || decide (t.1 > 4) with
        | true => rw [hc] at hf; cases hf
        | false =>
          simp only [Bool.or_eq_false_iff, decide_eq_false_iff_not] at hc
          omega
      unfold teO at h2
      simp only [Bool.or_eq_false_iff] at h2
      have rng : ∀ {l : List Int} {n : Int}, (l.any fun i => outB i n) = false → ∀ i ∈ l, 0 ≤ i ∧ i < n := fun {l n} hl i hi => by
        have := List.any_eq_false.1 hl i hi
        unfold outB at this
        simp only [Bool.or_eq_true, decide_eq_true_eq, not_or] at this
        omega
      refine ⟨hk, rng h2.1.1, rng h2.1.2, fun e => ?_, fun e => ?_⟩
      · rw [e] at h
        cases h3 : outB t.2.2.1 a.2.2.1.length with
        | true => rw [h3] at h; cases h
        | false =>
          unfold outB at h3
          simp only [Bool.or_eq_false_iff, decide_eq_false_iff_not] at h3
          omega
      · rw [e] at h
        cases h3 : ((a.2.2.1.length : Int) == 0) with
        | true => rw [h3] at h; cases h
        | false =>
          have := beq_eq_false_iff_ne.1 h3
          omega
end Go.XD


/- Plain law of the graph package: arcs, laid by their nodes. -/
namespace Go.XD

abbrev Arc := V_easementref08_Pair
def nd (b : Bool) (a : Arc) : Int := cond b a.2.1 a.1
def ndN (b : Bool) (a : Arc) : Nat := (nd b a).toNat
/-- All arcs are between nodes. -/
def InR (n : Nat) (A : List Arc) : Prop := ∀ a ∈ A, 0 ≤ a.1 ∧ a.1 < n ∧ 0 ≤ a.2.1 ∧ a.2.1 < n
theorem InR.nd {n : Nat} {A : List Arc} (h : InR n A) (b : Bool) {a : Arc} (ha : a ∈ A) : nd b a = (ndN b a : Nat) ∧ ndN b a < n := by
  have := h a ha
  unfold ndN XD.nd
  cases b <;> simp only [cond_true, cond_false] <;> omega
def CB (b : Bool) (A : List Arc) (v : Nat) : Nat := A.countP fun a => decide (ndN b a < v)
def cn (b : Bool) (A : List Arc) (v : Nat) : Nat := A.countP fun a => ndN b a == v
theorem countP_or {α : Type} {p q r : α → Bool} (h : ∀ a, (r a = true ↔ p a = true ∨ q a = true)) (hd : ∀ a, ¬ (p a = true ∧ q a = true)) : ∀ l : List α, l.countP r = l.countP p + l.countP q
  | [] => rfl
  | a :: l => by
    rw [List.countP_cons, List.countP_cons, List.countP_cons, countP_or h hd l]
    have h1 := h a
    have h2 := hd a
    cases hp : p a <;> cases hq : q a <;> cases hr : r a <;> simp_all <;> omega
theorem CB_succ (b : Bool) (A : List Arc) (v : Nat) : CB b A (v + 1) = CB b A v + cn b A v :=
  countP_or (fun a => by simp; omega) (fun a => by simp; omega) A
theorem CB_zero (b : Bool) (A : List Arc) : CB b A 0 = 0 := by simp [CB]
theorem CB_mono (b : Bool) (A : List Arc) {u v : Nat} (h : u ≤ v) : CB b A u ≤ CB b A v := by
  unfold CB
  exact List.countP_mono_left fun a _ h' => by simp at h' ⊢; omega
theorem CB_all {b : Bool} {A : List Arc} {n : Nat} (h : InR n A) : CB b A n = A.length := by
  unfold CB
  rw [List.countP_eq_length]
  intro a ha
  simp [(h.nd b ha).2]
/-- Where an arc is laid. -/
def pos (b : Bool) (A : List Arc) (j : Nat) : Nat := CB b A (ndN b (A.getD j (0, 0, ()))) + cn b (A.take j) (ndN b (A.getD j (0, 0, ())))
theorem cn_lt {b : Bool} {A : List Arc} {j : Nat} (h : j < A.length) : cn b (A.take j) (ndN b (A.getD j (0, 0, ()))) < cn b A (ndN b (A.getD j (0, 0, ()))) := by
  have e : A.getD j (0, 0, ()) = A[j] := by simp [List.getD_eq_getElem?_getD, h]
  have h1 : cn b (A.take (j + 1)) (ndN b (A.getD j (0, 0, ()))) = cn b (A.take j) (ndN b (A.getD j (0, 0, ()))) + 1 := by
    unfold cn
    rw [countP_take_succ h, e]
    simp
  have h2 : cn b (A.take (j + 1)) (ndN b (A.getD j (0, 0, ()))) ≤ cn b A (ndN b (A.getD j (0, 0, ()))) := countP_take_len
  omega
theorem pos_lt {b : Bool} {A : List Arc} {n j : Nat} (hA : InR n A) (h : j < A.length) : pos b A j < A.length := by
  have e : A.getD j (0, 0, ()) = A[j] := by simp [List.getD_eq_getElem?_getD, h]
  have h1 := cn_lt (b := b) h
  have h2 := CB_succ b A (ndN b (A.getD j (0, 0, ())))
  have h3 : CB b A (ndN b (A.getD j (0, 0, ())) + 1) ≤ CB b A n := CB_mono b A (by rw [e]; exact (hA.nd b (List.getElem_mem h)).2)
  rw [CB_all hA] at h3
  unfold pos
  omega
theorem pos_inj {b : Bool} {A : List Arc} {i j : Nat} (hi : i < A.length) (hj : j < A.length) (h : pos b A i = pos b A j) : i = j := by
  have key : ∀ i j, i < A.length → j < A.length → pos b A i = pos b A j → ndN b (A.getD i (0, 0, ())) < ndN b (A.getD j (0, 0, ())) → False := fun i j hi hj h hlt => by
    have h1 := cn_lt (b := b) hi
    have h2 := CB_succ b A (ndN b (A.getD i (0, 0, ())))
    have h3 := CB_mono b A (show ndN b (A.getD i (0, 0, ())) + 1 ≤ ndN b (A.getD j (0, 0, ())) from hlt)
    unfold pos at h
    omega
  have key2 : ∀ i j, i < A.length → j < A.length → pos b A i = pos b A j → ndN b (A.getD i (0, 0, ())) = ndN b (A.getD j (0, 0, ())) → i < j → False := fun i j hi hj h he hlt => by
    have e : A.getD i (0, 0, ()) = A[i] := by simp [List.getD_eq_getElem?_getD, hi]
    have h1 : cn b (A.take (i + 1)) (ndN b (A.getD i (0, 0, ()))) = cn b (A.take i) (ndN b (A.getD i (0, 0, ()))) + 1 := by
      unfold cn
      rw [countP_take_succ hi, e]
      simp
    have h2 : cn b (A.take (i + 1)) (ndN b (A.getD i (0, 0, ()))) ≤ cn b (A.take j) (ndN b (A.getD i (0, 0, ()))) := countP_take_le hlt
    unfold pos at h
    rw [← he] at h
    omega
  rcases Nat.lt_trichotomy (ndN b (A.getD i (0, 0, ()))) (ndN b (A.getD j (0, 0, ()))) with hl | hl | hl
  · exact (key i j hi hj h hl).elim
  · rcases Nat.lt_trichotomy i j with h' | h' | h'
    · exact (key2 i j hi hj h hl h').elim
    · exact h'
    · exact (key2 j i hj hi h.symm hl.symm h').elim
  · exact (key j i hj hi h.symm hl).elim
/-- What is laid at a place after some arcs. -/
def outF (b : Bool) (A : List Arc) (i p : Nat) : Int := match (List.range i).find? fun j => pos b A j == p with
  | some j => (j : Int)
  | none => 0
theorem outF_succ {b : Bool} {A : List Arc} {i p : Nat} (hi : i < A.length) : outF b A (i + 1) p = if p = pos b A i then (i : Int) else outF b A i p := by
  unfold outF
  rw [List.range_succ, List.find?_append]
  by_cases hp : p = pos b A i
  · rw [if_pos hp]
    have : (List.range i).find? (fun j => pos b A j == p) = none := by
      rw [List.find?_eq_none]
      intro j hj
      have hj' := List.mem_range.1 hj
      simp only [beq_iff_eq]
      intro e
      have := pos_inj (b := b) (A := A) (by omega : j < A.length) hi (by rw [e, hp])
      omega
    rw [this]
    simp [hp]
  · rw [if_neg hp]
    have : List.find? (fun j => pos b A j == p) [i] = none := by
      rw [List.find?_eq_none]
      intro j hj
      simp at hj
      subst hj
      simpa using Ne.symm hp
    rw [this]
    simp
theorem outF_pos {b : Bool} {A : List Arc} {j : Nat} (hj : j < A.length) : outF b A A.length (pos b A j) = j := by
  unfold outF
  cases h : (List.range A.length).find? fun k => pos b A k == pos b A j with
  | none =>
    rw [List.find?_eq_none] at h
    have := h j (List.mem_range.2 hj)
    simp at this
  | some k =>
    have h1 := List.find?_some h
    have h2 := List.mem_range.1 (List.mem_of_find?_eq_some h)
    simp only [beq_iff_eq] at h1
    simp only
    rw [pos_inj h2 hj h1]
/-- Numbers, as whole numbers. -/
def ofN (l : List Nat) : List Int := l.map fun (j : Nat) => (j : Int)
/-- The arcs of a node, rising. -/
def sel (b : Bool) (A : List Arc) (v : Nat) : List Nat := (List.range A.length).filter fun j => ndN b (A.getD j (0, 0, ())) == v
theorem sel_len (b : Bool) (A : List Arc) (v : Nat) : (sel b A v).length = cn b A v := by
  have := countP_range (0, 0, ()) (p := fun a => ndN b a == v) (l := A) (Nat.le_refl A.length)
  rw [List.take_length] at this
  exact this.symm
/-- A node's part of the laid arcs. -/
theorem laid_part (b : Bool) (A : List Arc) (v : Nat) {m : Nat} (hm : m = A.length) (hle : CB b A (v + 1) ≤ m) :
    ((tab m (outF b A A.length)).take (CB b A (v + 1))).drop (CB b A v) = ofN (sel b A v) := by
  unfold ofN
  rw [tab_take hle, tab_drop]
  have hl : CB b A (v + 1) - CB b A v = (sel b A v).length := by
    rw [sel_len, CB_succ]
    omega
  apply List.ext_getElem
  · simp [hl]
  · intro k h1 h2
    rw [tab_at, List.getElem_map]
    have hk : k < (sel b A v).length := by simpa using h2
    obtain ⟨g1, g2, g3⟩ := range_sel (p := fun j => ndN b (A.getD j (0, 0, ())) == v) hk
    have e : CB b A v + k = pos b A ((sel b A v)[k]) := by
      unfold pos
      simp only [beq_iff_eq] at g1
      have hv : ndN b (A.getD ((sel b A v)[k]) (0, 0, ())) = v := g1
      rw [hv]
      congr 1
      have := countP_range (0, 0, ()) (p := fun a => ndN b a == v) (l := A) (Nat.le_of_lt g2)
      unfold cn
      exact (this.trans g3).symm
    rw [e]
    exact outF_pos g2

/-! ### The loops of lay -/
theorem node_eq (b : Bool) (a : Arc) : graph_lay_1_p0 (a, (b, ()), ()) = some (.inl (nd b a, (b, ()), ())) := by
  unfold graph_lay_1_p0 nd
  cases b <;> rfl
theorem rdL_arc {A : List Arc} {i : Nat} (h : i < A.length) : rdL t_easementref08_Pair A (i : Int) = A[i] := rdL_nat t_easementref08_Pair A h

section
variable {n : Nat} {A : List Arc} {b : Bool} (hA : InR n A) (hn : n ≤ 1048576) (hm : A.length ≤ 67108864)
include hA hn hm

theorem lay1 : lim graph_lay_l8_step (((b, ()), ()), List.replicate (n + 1) (0 : Int), A, (A.length : Int), (0 : Int), ()) = some (.inl (((b, ()), ()), tab (n + 1) (fun j => (A.countP fun a => ndN b a + 1 == j : Nat)), ())) := by
  have := lim_up (step := graph_lay_l8_step) (y := .inl (((b, ()), ()), tab (n + 1) (fun j => (A.countP fun a => ndN b a + 1 == j : Nat)), ()))
    (fun i => (((b, ()), ()), tab (n + 1) (fun j => ((A.take i).countP fun a => ndN b a + 1 == j : Nat)), A, (A.length : Int), (i : Int), ())) A.length (fun g i hi => ?_) (fun g => ?_)
  · rw [tab_rep]
    simpa using this
  · have hin := hA.nd b (List.getElem_mem hi)
    unfold graph_lay_l8_step
    simp only [dlt hi, cond_true, inB_nat hi, ck_true, rdL_arc hi, node_eq, Option.bind_some, out1_inl]
    rw [hin.1, wrap_succ (by omega), wrap_succ (by omega)]
    simp only [inB_nat (show ndN b A[i] + 1 < (tab (n + 1) (fun j => ((A.take i).countP fun a => ndN b a + 1 == j : Nat))).length by simp; omega), ck_true]
    congr 3
    simp only [Int.toNat_natCast]
    rw [tab_get (by omega)]
    refine tab_set ?_ (fun j hj => ?_)
    · rw [countP_take_succ hi]
      have : (A.take i).countP (fun a => ndN b a + 1 == ndN b A[i] + 1) ≤ (A.take i).length := List.countP_le_length
      have h2 : (A.take i).length ≤ A.length := by simp; omega
      rw [wrap32 (by omega) (by omega)]
      simp
    · rw [countP_take_succ hi, if_neg (by simpa using Ne.symm hj)]
      simp
  · unfold graph_lay_l8_step
    simp only [dge (Nat.lt_irrefl _), cond_false, List.take_length]

theorem lay2 : lim graph_lay_l18_step (tab (n + 1) (fun j => (A.countP fun a => ndN b a + 1 == j : Nat)), (n : Int), (0 : Int), ()) = some (.inl (tab (n + 1) (fun j => (CB b A j : Nat)), ())) := by
  have := lim_up (step := graph_lay_l18_step) (y := .inl (tab (n + 1) (fun j => (CB b A j : Nat)), ()))
    (fun i => (tab (n + 1) (fun j => if j ≤ i then (CB b A j : Nat) else (A.countP fun a => ndN b a + 1 == j : Nat)), (n : Int), (i : Int), ())) n (fun g i hi => ?_) (fun g => ?_)
  · rw [← this]
    congr 2
    refine tab_ext fun k hk => ?_
    by_cases h0 : k ≤ 0
    · have : k = 0 := by omega
      subst this
      simp [CB_zero]
    · rw [if_neg h0]
  · unfold graph_lay_l18_step
    simp only [dlt hi, cond_true, wrap_succ (show i < 9223372036854775807 by omega), inB_nat (show i + 1 < (tab (n + 1) (fun j => if j ≤ i then (CB b A j : Int) else ((A.countP fun a => ndN b a + 1 == j : Nat) : Int))).length by simp; omega), inB_nat (show i < (tab (n + 1) (fun j => if j ≤ i then (CB b A j : Int) else ((A.countP fun a => ndN b a + 1 == j : Nat) : Int))).length by simp; omega), ck_true]
    congr 2
    simp only [Int.toNat_natCast]
    rw [tab_get (by omega), tab_get (by omega)]
    have h1 : CB b A i + cn b A i = CB b A (i + 1) := (CB_succ b A i).symm
    have h2 : CB b A (i + 1) ≤ A.length := List.countP_le_length
    have e : (A.countP fun a => ndN b a + 1 == i + 1) = cn b A i := by
      unfold cn
      exact List.countP_congr fun a _ => by simp
    refine tab_set ?_ (fun j hj => ?_)
    · rw [if_pos (Nat.le_refl _), if_neg (by omega), if_pos (Nat.le_refl _), e, wrap32 (by omega) (by omega)]
      omega
    · by_cases hj2 : j ≤ i
      · rw [if_pos (by omega), if_pos hj2]
      · rw [if_neg (by omega), if_neg hj2]
  · unfold graph_lay_l18_step
    simp only [dge (Nat.lt_irrefl _), cond_false]
    congr 3
    exact tab_ext fun k hk => by rw [if_pos (by omega)]

theorem lay3 : lim graph_lay_l32_step (((b, ()), ()), tab (n + 1) (fun j => (CB b A j : Nat)), List.replicate A.length (0 : Int), A, (A.length : Int), (0 : Int), ()) =
    some (.inl (((b, ()), ()), tab (n + 1) (fun j => (CB b A j + cn b A j : Nat)), tab A.length (outF b A A.length), ())) := by
  have := lim_up (step := graph_lay_l32_step) (y := .inl (((b, ()), ()), tab (n + 1) (fun j => (CB b A j + cn b A j : Nat)), tab A.length (outF b A A.length), ()))
    (fun i => (((b, ()), ()), tab (n + 1) (fun j => (CB b A j + cn b (A.take i) j : Nat)), tab A.length (outF b A i), A, (A.length : Int), (i : Int), ())) A.length (fun g i hi => ?_) (fun g => ?_)
  · rw [tab_rep, ← this]
    have e0 : outF b A 0 = fun _ => 0 := by
      funext p
      simp [outF]
    simp [cn, e0]
  · have hin := hA.nd b (List.getElem_mem hi)
    have e : A.getD i (0, 0, ()) = A[i] := by simp [List.getD_eq_getElem?_getD, hi]
    have hpos : pos b A i = CB b A (ndN b A[i]) + cn b (A.take i) (ndN b A[i]) := by unfold pos; rw [e]
    have hplt := pos_lt (b := b) hA hi
    unfold graph_lay_l32_step
    simp only [dlt hi, cond_true, inB_nat hi, ck_true, rdL_arc hi, node_eq, Option.bind_some, out1_inl]
    rw [hin.1]
    have hb1 : inB ((ndN b A[i] : Nat) : Int) (tab (n + 1) (fun j => ((CB b A j + cn b (A.take i) j : Nat) : Int))).length = true := inB_nat (by simp; omega)
    simp only [hb1, ck_true, Int.toNat_natCast]
    rw [tab_get (by omega), ← hpos]
    simp only [inB_nat (show pos b A i < (tab A.length (outF b A i)).length by simpa using hplt), ck_true, Int.toNat_natCast]
    rw [wrap_succ (by omega), wrap32 (by omega) (by omega), wrap32 (by omega) (by omega)]
    congr 3
    · refine tab_set ?_ (fun j hj => ?_)
      · rw [show cn b (A.take (i + 1)) (ndN b A[i]) = cn b (A.take i) (ndN b A[i]) + 1 from by unfold cn; rw [countP_take_succ hi]; simp]
        omega
      · rw [show cn b (A.take (i + 1)) j = cn b (A.take i) j from by unfold cn; rw [countP_take_succ hi]; simp; omega]
    · congr 1
      exact tab_set (by rw [outF_succ hi, if_pos rfl]) (fun j hj => by rw [outF_succ hi, if_neg hj])
  · unfold graph_lay_l32_step
    simp only [dge (Nat.lt_irrefl _), cond_false, List.take_length]

theorem lay_eq : graph_lay ((n : Int), A, b, ()) = some (tab A.length (outF b A A.length), tab (n + 1) (fun j => (CB b A j : Nat)), ()) := by
  unfold graph_lay
  simp only [wrap_succ (show n < 9223372036854775807 by omega), Int.toNat_natCast]
  rw [lay1 hA hn hm]
  simp only [Option.bind_some, out1_inl]
  rw [lay2 hA hn hm]
  simp only [Option.bind_some, out1_inl, List.nil_append, tab_len]
  rw [lay3 hA hn hm, roomB_ok (by omega)]
  simp only [Option.bind_some, out1_inl, ck_true]
  rw [show (decide ((0 : Int) ≤ ((n + 1 : Nat) : Int)) && decide (((n + 1 : Nat) : Int) ≤ ((n + 1 : Nat) : Int)) && decide (((n + 1 : Nat) : Int) * ((6 : Nat) : Int) ≤ 35184372088832)) = true from by simp; omega,
    show (decide ((0 : Int) ≤ (A.length : Int)) && decide ((A.length : Int) ≤ (A.length : Int)) && decide ((A.length : Int) * ((6 : Nat) : Int) ≤ 35184372088832)) = true from by simp; omega]
  simp only [ck_true]
end

/-! ### New -/
def badArc (n : Int) (a : Arc) : Bool := decide (a.1 < 0) || decide (a.1 ≥ n) || decide (a.2.1 < 0) || decide (a.2.1 ≥ n)
theorem findIdx_not {α : Type} {p : α → Bool} {l : List α} {i : Nat} (hi : i < l.findIdx p) (hl : i < l.length) : p l[i] = false := by
  have := List.not_of_lt_findIdx hi
  simpa using this
theorem New_loop (n : Int) (A : List Arc) (hl : A.length ≤ 67108864) : lim graph_New_l12_step (n, A, (A.length : Int), (0 : Int), ()) = some (if A.any (badArc n) then .inl ((), (7 : Int), ()) else .inr (.inl ())) := by
  refine lim_up (step := graph_New_l12_step) (fun i => (n, A, (A.length : Int), (i : Int), ())) (A.findIdx (badArc n)) (fun g i hi => ?_) (fun g => ?_)
  · have hil : i < A.length := Nat.lt_of_lt_of_le hi List.findIdx_le_length
    have := findIdx_not hi hil
    unfold graph_New_l12_step
    simp only [dlt hil, cond_true, inB_nat hil, ck_true, rdL_arc hil, cond_or]
    change (bif badArc n A[i] then _ else _) = _
    rw [this, wrap_succ (by omega)]
    rfl
  · unfold graph_New_l12_step
    by_cases hex : A.any (badArc n) = true
    · have hil : A.findIdx (badArc n) < A.length := List.findIdx_lt_length_of_exists (by
        obtain ⟨a, h1, h2⟩ := List.any_eq_true.1 hex
        exact ⟨a, h1, h2⟩)
      have hb : badArc n A[A.findIdx (badArc n)] = true := List.findIdx_getElem (w := hil)
      simp only [dlt hil, cond_true, inB_nat hil, ck_true, rdL_arc hil, cond_or]
      change (bif badArc n A[A.findIdx (badArc n)] then _ else _) = _
      rw [hb, if_pos hex]
      rfl
    · have : A.findIdx (badArc n) = A.length := by
        rw [List.findIdx_eq_length]
        intro a ha
        cases h : badArc n a with
        | false => rfl
        | true => exact absurd (List.any_eq_true.2 ⟨a, ha, h⟩) hex
      rw [this, if_neg hex]
      simp only [dge (Nat.lt_irrefl _), cond_false]
theorem inR_of {n : Nat} {A : List Arc} (h : A.any (badArc n) = false) : InR n A := fun a ha => by
  have := List.any_eq_false.1 h a ha
  simp only [badArc, Bool.or_eq_true, decide_eq_true_eq, not_or, Int.not_lt, Int.not_le, ge_iff_le] at this
  omega
/-- The graph. -/
def gr (n : Nat) (A : List Arc) : V_graph_Graph := ((n : Int), A, tab A.length (outF false A A.length), tab A.length (outF true A A.length), tab (n + 1) (fun j => (CB false A j : Nat)), tab (n + 1) (fun j => (CB true A j : Nat)), ())
theorem New_eq {n : Nat} {A : List Arc} (hA : InR n A) (hn : n ≤ 1048576) (hm : A.length ≤ 67108864) : graph_New ((n : Int), A, ()) = some (some (gr n A), (0 : Int), ()) := by
  have hb : A.any (badArc n) = false := by
    rw [List.any_eq_false]
    intro a ha h
    have := hA a ha
    simp only [badArc, Bool.or_eq_true, decide_eq_true_eq] at h
    omega
  unfold graph_New
  simp only
  rw [New_loop _ _ hm, hb]
  rw [show decide ((n : Int) < 0) = false from by simp, show decide ((n : Int) > 1048576) = false from by simp; omega, show decide ((A.length : Int) > 67108864) = false from by simp; omega]
  simp only [cond_false, Bool.false_eq_true, if_false, Option.bind_some, out2_inr, List.nil_append]
  rw [roomB_ok (by omega), ck_true, lay_eq hA hn hm, lay_eq hA hn hm]
  rfl
theorem New_neg {n : Int} {A : List Arc} (h : n < 0) : graph_New (n, A, ()) = some (none, (2 : Int), ()) := by
  unfold graph_New
  simp [h]
theorem New_bad {n : Int} {A : List Arc} (h0 : 0 ≤ n) (hn : n ≤ 1048576) (hm : A.length ≤ 67108864) (h : A.any (badArc n) = true) : graph_New (n, A, ()) = some (none, (7 : Int), ()) := by
  unfold graph_New
  simp only
  rw [New_loop _ _ hm, h]
  rw [show decide (n < 0) = false from by simp; omega, show decide (n > 1048576) = false from by simp; omega, show decide ((A.length : Int) > 67108864) = false from by simp; omega]
  simp only [cond_false, if_true, Option.bind_some, out2_inl]

/-! ### Out, In, Next -/
theorem Nodes_some {g : V_graph_Graph} : graph_Graph_Nodes (some g, ()) = some (g.1, ()) := by
  unfold graph_Graph_Nodes
  rfl
theorem Nodes_none : graph_Graph_Nodes (none, ()) = some (0, ()) := by
  unfold graph_Graph_Nodes
  rfl
section
variable {l : List Int} (hl : l.length ≤ 67108864) (hr : ∀ x ∈ l, 0 ≤ x ∧ x ≤ 67108864)
include hl hr
theorem ints_rd {i : Nat} (hi : i < l.length) : IntKind.i64.wrap (rdL (.int .i32) l (i : Int)) = l[i] := by
  rw [rdL_nat (.int .i32) l hi]
  have := hr l[i] (List.getElem_mem hi)
  exact wrap64 (by omega) (by omega)
theorem ints_loop_p : lim graph_ints_p0_l6_step (List.replicate l.length (0 : Int), l, (l.length : Int), (0 : Int), ()) = some (.inl (l, ())) := by
  have := lim_up (step := graph_ints_p0_l6_step) (y := .inl (l, ())) (fun i => (tab l.length (fun k => if k < i then l.getD k 0 else 0), l, (l.length : Int), (i : Int), ())) l.length (fun g i hi => ?_) (fun g => ?_)
  · rw [tab_rep]
    simpa using this
  · unfold graph_ints_p0_l6_step
    simp only [dlt hi, cond_true, inB_nat hi, ck_true, ints_rd hl hr hi, wrap_succ (show i < 9223372036854775807 by omega), inB_nat (show i < (tab l.length (fun k => if k < i then l.getD k 0 else 0)).length by simpa using hi), Int.toNat_natCast]
    congr 2
    refine tab_set ?_ (fun j hj => ?_)
    · rw [if_pos (by omega)]
      simp [List.getD_eq_getElem?_getD, hi]
    · by_cases h : j < i
      · rw [if_pos h, if_pos (by omega)]
      · rw [if_neg h, if_neg (by omega)]
  · unfold graph_ints_p0_l6_step
    simp only [dge (Nat.lt_irrefl _), cond_false]
    rw [tab_ext (g' := fun k => l.getD k 0) (fun k hk => by rw [if_pos hk]), ← tab_of]
theorem ints_ck : (decide ((0 : Int) ≤ (l.length : Int)) && decide ((l.length : Int) ≤ (l.length : Int)) && decide ((l.length : Int) * ((10 : Nat) : Int) ≤ 35184372088832)) = true := by simp; omega
theorem ints_eq_p : graph_ints_p0 (l, ()) = some (.inl (l, ())) := by
  unfold graph_ints_p0
  simp only
  rw [ints_ck hl hr, ck_true, Int.toNat_natCast, ints_loop_p hl hr]
  rfl
end
theorem sel_bound {b : Bool} {A : List Arc} {v : Nat} {j : Nat} (h : j ∈ sel b A v) : j < A.length ∧ ndN b (A.getD j (0, 0, ())) = v := by
  unfold sel at h
  rw [List.mem_filter, List.mem_range] at h
  simpa using h
section
variable {n : Nat} {A : List Arc} (hA : InR n A) (hn : n ≤ 1048576) (hm : A.length ≤ 67108864)
include hA hn hm
theorem sel_ok {b : Bool} {v : Nat} : (ofN (sel b A v)).length ≤ 67108864 ∧ ∀ x ∈ ofN (sel b A v), 0 ≤ x ∧ x ≤ 67108864 := by
  constructor
  · unfold ofN
    rw [List.length_map, sel_len]
    exact Nat.le_trans List.countP_le_length hm
  · intro x hx
    obtain ⟨j, h1, rfl⟩ := List.mem_map.1 hx
    have := (sel_bound h1).1
    omega
theorem part_ck {b : Bool} {v : Nat} (hv : v < n) : CB b A (v + 1) ≤ A.length ∧ CB b A v ≤ CB b A (v + 1) := ⟨List.countP_le_length, CB_mono b A (Nat.le_succ v)⟩
theorem Out_p_eq {v : Nat} (hv : v < n) : graph_Graph_Out_p0 (some (gr n A), (v : Int), ()) = some (.inl (ofN (sel false A v), ())) := by
  obtain ⟨k1, k2⟩ := part_ck hA hn hm (b := false) hv
  unfold graph_Graph_Out_p0
  simp only [Nodes_some, Option.bind_some, Option.isSome_some, ck_true, Option.getD_some, gr]
  rw [show decide ((v : Int) < 0) = false from by simp, show decide ((v : Int) ≥ (n : Int)) = false from by simp; omega]
  simp only [Bool.not_false, cond_true, cond_false, wrap_succ (show v < 9223372036854775807 by omega), tab_len, inB_nat (show v < n + 1 by omega), inB_nat (show v + 1 < n + 1 by omega), ck_true]
  simp only [rdL_tab (show v < n + 1 by omega), rdL_tab (show v + 1 < n + 1 by omega), Int.toNat_natCast]
  rw [show (decide ((0 : Int) ≤ ((CB false A v : Nat) : Int)) && decide (((CB false A v : Nat) : Int) ≤ ((CB false A (v + 1) : Nat) : Int)) && decide (((CB false A (v + 1) : Nat) : Int) ≤ (A.length : Int))) = true from by simp; omega, ck_true, laid_part false A v rfl k1, ints_eq_p (sel_ok hA hn hm).1 (sel_ok hA hn hm).2]
  rfl
/-- Where a node's arcs lead. -/
def nxt (A : List Arc) (v : Nat) : List Int := (sel false A v).map fun j => (A.getD j (0, 0, ())).2.1
omit hA in
theorem Next_loop {v : Nat} : lim graph_Graph_Next_l6_step (some (gr n A), ofN (sel false A v), ((ofN (sel false A v)).length : Int), (0 : Int), ()) = some (.inl (nxt A v, ())) := by
  have hlen : (ofN (sel false A v)).length = (sel false A v).length := by simp [ofN]
  have hle : (sel false A v).length ≤ A.length := by rw [sel_len]; exact List.countP_le_length
  have := lim_up (step := graph_Graph_Next_l6_step) (y := .inl (nxt A v, ())) (fun i => (some (gr n A), (nxt A v).take i ++ (ofN (sel false A v)).drop i, ((ofN (sel false A v)).length : Int), (i : Int), ())) (ofN (sel false A v)).length (fun g i hi => ?_) (fun g => ?_)
  · simpa using this
  · rw [hlen] at hi
    have hil : i < ((nxt A v).take i ++ (ofN (sel false A v)).drop i).length := by simp [nxt, ofN]; omega
    have hj := sel_bound (List.getElem_mem hi)
    unfold graph_Graph_Next_l6_step
    simp only [hlen, dlt hi, cond_true, inB_nat hil, ck_true, Option.isSome_some, Option.getD_some, wrap_succ (show i < 9223372036854775807 by omega), Int.toNat_natCast]
    have hg : ((nxt A v).take i ++ (ofN (sel false A v)).drop i).getD i (Ty.dflt (.int .i64)) = (((sel false A v)[i] : Nat) : Int) := by
      rw [List.getD_eq_getElem?_getD, List.getElem?_append_right (by simp [nxt]; omega), List.length_take, List.getElem?_drop]
      simp [nxt, ofN, hi, Nat.min_eq_left (Nat.le_of_lt hi)]
    rw [hg]
    simp only [gr, inB_nat hj.1, ck_true, rdL_arc hj.1]
    congr 3
    apply List.ext_getElem?
    intro k
    rw [List.getElem?_set]
    have e : A[(sel false A v)[i]].2.1 = (A.getD (sel false A v)[i] (0, 0, ())).2.1 := by simp [List.getD_eq_getElem?_getD, hj.1]
    by_cases hk : i = k
    · subst hk
      rw [if_pos rfl, if_pos hil, e, List.getElem?_append_left (by simp [nxt]; omega), List.getElem?_take_of_lt (by omega)]
      simp [nxt, hi]
    · rw [if_neg hk]
      by_cases hlt : k < i
      · rw [List.getElem?_append_left (by simp [nxt]; omega), List.getElem?_append_left (by simp [nxt]; omega), List.getElem?_take_of_lt (by omega), List.getElem?_take_of_lt (by omega)]
      · rw [List.getElem?_append_right (by simp [nxt]; omega), List.getElem?_append_right (by simp [nxt]; omega), List.getElem?_drop, List.getElem?_drop]
        congr 1
        simp [nxt]
        omega
  · unfold graph_Graph_Next_l6_step
    simp only [dge (Nat.lt_irrefl _), cond_false]
    rw [hlen, List.take_of_length_le (by simp [nxt]), List.drop_eq_nil_of_le (by simp [ofN]), List.append_nil]
theorem Next_eq {v : Nat} (hv : v < n) : graph_Graph_Next (some (gr n A), (v : Int), ()) = some (nxt A v, ()) := by
  unfold graph_Graph_Next
  simp only [Out_p_eq hA hn hm hv, Option.bind_some, out1_inl]
  rw [Next_loop hn hm]
  rfl
end

/-! ### Reach -/
/-- Arcs lead from one to the other. -/
inductive Rch (A : List Arc) (v : Nat) : Nat → Prop
  | refl : Rch A v v
  | step {a : Arc} (h : Rch A v (ndN false a)) (ha : a ∈ A) : Rch A v (ndN true a)
open Classical in
/-- 1 of each that is reached. -/
noncomputable def ind (A : List Arc) (v w : Nat) : Int := if Rch A v w then 1 else 0
theorem nxt_mem {A : List Arc} {v : Nat} {x : Int} : x ∈ nxt A v ↔ ∃ a ∈ A, ndN false a = v ∧ a.2.1 = x := by
  unfold nxt
  rw [List.mem_map]
  constructor
  · rintro ⟨j, h1, h2⟩
    obtain ⟨k1, k2⟩ := sel_bound h1
    exact ⟨A.getD j (0, 0, ()), by simp [List.getD_eq_getElem?_getD, k1], k2, h2⟩
  · rintro ⟨a, h1, h2, h3⟩
    obtain ⟨j, hj, rfl⟩ := List.getElem_of_mem h1
    have e : A.getD j (0, 0, ()) = A[j] := by simp [List.getD_eq_getElem?_getD, hj]
    refine ⟨j, ?_, by rw [e]; exact h3⟩
    unfold sel
    rw [List.mem_filter, List.mem_range]
    exact ⟨hj, by rw [e]; simpa using h2⟩
/-- A node is looked at. -/
def vis (s : List Int × List Int) (w : Int) : List Int × List Int := if s.1.getD w.toNat 0 = 0 then (s.1.set w.toNat 1, s.2 ++ [w]) else s
theorem vis_len (s : List Int × List Int) (w : Int) : (vis s w).1.length = s.1.length := by unfold vis; split <;> simp
theorem visL_len (l : List Int) : ∀ s : List Int × List Int, (l.foldl vis s).1.length = s.1.length := by
  induction l with
  | nil => intro s; rfl
  | cons w l ih => intro s; rw [List.foldl_cons, ih, vis_len]
/-- How many are not yet reached. -/
def zs (b : List Int) : Nat := b.countP fun x => x == 0
theorem zs_set {b : List Int} {k : Nat} (hk : k < b.length) (h : b[k] = 0) : zs (b.set k 1) + 1 = zs b := by
  unfold zs
  rw [List.countP_set hk, h]
  have : 0 < b.countP fun x => x == 0 := List.countP_pos_iff.2 ⟨b[k], List.getElem_mem hk, by simp [h]⟩
  simp
  omega
theorem vis_ms (s : List Int × List Int) {w : Int} (hw : 0 ≤ w ∧ w < s.1.length) : zs (vis s w).1 + (vis s w).2.length = zs s.1 + s.2.length := by
  unfold vis
  split
  · rename_i h
    have hk : w.toNat < s.1.length := by omega
    have h0 : s.1[w.toNat] = 0 := by simpa [List.getD_eq_getElem?_getD, hk] using h
    have := zs_set hk h0
    simp only [List.length_append, List.length_singleton]
    omega
  · rfl
theorem visL_ms : ∀ (l : List Int) (s : List Int × List Int), (∀ w ∈ l, 0 ≤ w ∧ w < s.1.length) → zs (l.foldl vis s).1 + (l.foldl vis s).2.length = zs s.1 + s.2.length
  | [], s, _ => rfl
  | w :: l, s, h => by
    rw [List.foldl_cons, visL_ms l (vis s w) (fun w' hw' => by rw [vis_len]; exact h w' (List.mem_cons_of_mem _ hw')), vis_ms s (h w List.mem_cons_self)]
/-- What a round of looking keeps. -/
theorem vis_keep {s : List Int × List Int} {w : Int} (hw : 0 ≤ w ∧ w < s.1.length) (h01 : ∀ x ∈ s.1, x = 0 ∨ x = 1) :
    (∀ x ∈ (vis s w).1, x = 0 ∨ x = 1) ∧ (vis s w).1.getD w.toNat 0 = 1 ∧ (∀ k, s.1.getD k 0 = 1 → (vis s w).1.getD k 0 = 1) ∧ (∀ k, (vis s w).1.getD k 0 = 1 → s.1.getD k 0 = 1 ∨ k = w.toNat) ∧
    (∀ x, x ∈ (vis s w).2 → x ∈ s.2 ∨ x = w) ∧ (∀ x ∈ s.2, x ∈ (vis s w).2) ∧ (∀ k, (vis s w).1.getD k 0 = 1 → s.1.getD k 0 = 1 ∨ ((k : Nat) : Int) ∈ (vis s w).2) := by
  have hk : w.toNat < s.1.length := by omega
  have e : s.1.getD w.toNat 0 = s.1[w.toNat] := by simp [List.getD_eq_getElem?_getD, hk]
  have gs : ∀ k, (s.1.set w.toNat 1).getD k 0 = if k = w.toNat then 1 else s.1.getD k 0 := fun k => by
    rw [List.getD_eq_getElem?_getD, List.getElem?_set]
    by_cases h : w.toNat = k
    · rw [if_pos h, if_pos hk, if_pos h.symm]; rfl
    · rw [if_neg h, if_neg (Ne.symm h), List.getD_eq_getElem?_getD]
  unfold vis
  split
  · rename_i h
    refine ⟨fun x hx => ?_, by simp only [gs, if_pos], fun k hk' => ?_, fun k hk' => ?_, fun x hx => ?_, fun x hx => List.mem_append_left _ hx, fun k hk' => ?_⟩
    · rcases List.mem_or_eq_of_mem_set hx with h' | h'
      · exact h01 x h'
      · exact .inr h'
    · simp only [gs]
      split
      · rfl
      · exact hk'
    · simp only [gs] at hk'
      split at hk'
      · rename_i e'; exact .inr e'
      · exact .inl hk'
    · simpa using hx
    · simp only [gs] at hk'
      split at hk'
      · rename_i e'
        right
        rw [List.mem_append]
        right
        rw [e']
        simp
        omega
      · exact .inl hk'
  · rename_i h
    have h1 : s.1.getD w.toNat 0 = 1 := by
      rw [e] at h ⊢
      rcases h01 _ (List.getElem_mem hk) with h' | h'
      · exact absurd h' h
      · exact h'
    exact ⟨h01, h1, fun _ h => h, fun _ h => .inl h, fun x hx => .inl hx, fun x hx => hx, fun k h => .inl h⟩
theorem visL_keep : ∀ (l : List Int) (s : List Int × List Int), (∀ w ∈ l, 0 ≤ w ∧ w < s.1.length) → (∀ x ∈ s.1, x = 0 ∨ x = 1) →
    (∀ x ∈ (l.foldl vis s).1, x = 0 ∨ x = 1) ∧ (∀ w ∈ l, (l.foldl vis s).1.getD w.toNat 0 = 1) ∧ (∀ k, s.1.getD k 0 = 1 → (l.foldl vis s).1.getD k 0 = 1) ∧ (∀ k, (l.foldl vis s).1.getD k 0 = 1 → s.1.getD k 0 = 1 ∨ ∃ w ∈ l, k = w.toNat) ∧
    (∀ x, x ∈ (l.foldl vis s).2 → x ∈ s.2 ∨ x ∈ l) ∧ (∀ x ∈ s.2, x ∈ (l.foldl vis s).2) ∧ (∀ k, (l.foldl vis s).1.getD k 0 = 1 → s.1.getD k 0 = 1 ∨ ((k : Nat) : Int) ∈ (l.foldl vis s).2)
  | [], s, _, h01 => ⟨h01, fun _ h => (by cases h), fun _ h => h, fun _ h => .inl h, fun _ h => .inl h, fun _ h => h, fun _ h => .inl h⟩
  | w :: l, s, h, h01 => by
    obtain ⟨a1, a2, a3, a4, a5, a6, a7⟩ := vis_keep (h w List.mem_cons_self) h01
    obtain ⟨b1, b2, b3, b4, b5, b6, b7⟩ := visL_keep l (vis s w) (fun w' hw' => by rw [vis_len]; exact h w' (List.mem_cons_of_mem _ hw')) a1
    rw [List.foldl_cons]
    refine ⟨b1, fun w' hw' => ?_, fun k hk => b3 k (a3 k hk), fun k hk => ?_, fun x hx => ?_, fun x hx => b6 x (a6 x hx), fun k hk => ?_⟩
    · rcases List.mem_cons.1 hw' with rfl | hw'
      · exact b3 _ a2
      · exact b2 w' hw'
    · rcases b4 k hk with h' | ⟨w', h1, h2⟩
      · rcases a4 k h' with h' | h'
        · exact .inl h'
        · exact .inr ⟨w, List.mem_cons_self, h'⟩
      · exact .inr ⟨w', List.mem_cons_of_mem _ h1, h2⟩
    · rcases b5 x hx with h' | h'
      · rcases a5 x h' with h' | h'
        · exact .inl h'
        · exact .inr (h' ▸ List.mem_cons_self)
      · exact .inr (List.mem_cons_of_mem _ h')
    · rcases b7 k hk with h' | h'
      · rcases a7 k h' with h' | h'
        · exact .inl h'
        · exact .inr (b6 _ h')
      · exact .inr h'

theorem j115_eq {b wk : List Int} {w : Int} (hw : 0 ≤ w ∧ w < b.length) (hr : wk.length ≤ 2000000) : graph_Graph_Reach_j115_v (b, wk, w, (b.getD w.toNat (Ty.dflt (.int .i64))) == (0 : Int), ()) = some (.inl ((vis (b, wk) w).2, (vis (b, wk) w).1, ())) := by
  unfold graph_Graph_Reach_j115_v vis
  simp only
  by_cases h : b.getD w.toNat 0 = 0
  · rw [if_pos h, show (b.getD w.toNat (Ty.dflt (.int .i64)) == (0 : Int)) = true from by rw [beq_iff_eq]; exact h]
    have : inB w b.length = true := by simp [inB]; omega
    simp only [cond_true, this, ck_true]
    rw [roomB_ok (by simp; omega), ck_true]
  · rw [if_neg h, show (b.getD w.toNat (Ty.dflt (.int .i64)) == (0 : Int)) = false from by rw [beq_eq_false_iff_ne]; exact h]
    rfl
theorem inner_eq {b wk l : List Int} (hl : ∀ w ∈ l, 0 ≤ w ∧ w < b.length) (hms : zs b + wk.length ≤ 2000000) (hlen : l.length ≤ 67108864) :
    lim graph_Graph_Reach_l20_step (b, wk, l, (l.length : Int), (0 : Int), ()) = some (.inl ((l.foldl vis (b, wk)).2, (l.foldl vis (b, wk)).1, ())) := by
  refine lim_up (step := graph_Graph_Reach_l20_step) (fun i => (((l.take i).foldl vis (b, wk)).1, ((l.take i).foldl vis (b, wk)).2, l, (l.length : Int), (i : Int), ())) l.length (fun g i hi => ?_) (fun g => ?_)
  · have hw := hl l[i] (List.getElem_mem hi)
    have hsub : ∀ w ∈ l.take i, 0 ≤ w ∧ w < b.length := fun w hw => hl w (List.mem_of_mem_take hw)
    have hlen2 : ((l.take i).foldl vis (b, wk)).1.length = b.length := visL_len _ _
    have hm := visL_ms (l.take i) (b, wk) hsub
    simp only at hm
    unfold graph_Graph_Reach_l20_step
    simp only [dlt hi, cond_true, inB_nat hi, ck_true]
    rw [rdL_nat (.int .i64) l hi]
    have hin : inB l[i] ((l.take i).foldl vis (b, wk)).1.length = true := by rw [hlen2]; simp [inB]; omega
    rw [hin, ck_true, j115_eq (by rw [hlen2]; exact hw) (by omega)]
    simp only [Option.bind_some, out1_inl]
    rw [wrap_succ (by omega), take_snoc hi, List.foldl_append]
    rfl
  · unfold graph_Graph_Reach_l20_step
    simp only [dge (Nat.lt_irrefl _), cond_false, List.take_length]

structure BfsOK (n : Nat) (A : List Arc) (v : Nat) (b wk : List Int) : Prop where
  len : b.length = n
  bit : ∀ x ∈ b, x = 0 ∨ x = 1
  inw : ∀ w ∈ wk, 0 ≤ w ∧ w < n ∧ b.getD w.toNat 0 = 1
  beg : b.getD v 0 = 1
  rch : ∀ k, b.getD k 0 = 1 → Rch A v k
  clo : ∀ k, b.getD k 0 = 1 → ((k : Nat) : Int) ∈ wk ∨ ∀ x ∈ nxt A k, b.getD x.toNat 0 = 1
  ms : zs b + wk.length ≤ n + 1
theorem BfsOK.done {n : Nat} {A : List Arc} {v : Nat} {b : List Int} (h : BfsOK n A v b []) : b = tab n (ind A v) := by
  have hc : ∀ k, Rch A v k → b.getD k 0 = 1 := fun k hk => by
    induction hk with
    | refl => exact h.beg
    | step h1 h2 ih =>
      rename_i a
      rcases h.clo _ ih with h' | h'
      · cases h'
      · exact h' a.2.1 (nxt_mem.2 ⟨a, h2, rfl, rfl⟩)
  rw [tab_of b, h.len]
  refine tab_ext fun k hk => ?_
  unfold ind
  split
  · rename_i hr
    exact hc k hr
  · rename_i hr
    have hk' : k < b.length := by rw [h.len]; exact hk
    have e : b.getD k 0 = b[k] := by simp [List.getD_eq_getElem?_getD, hk']
    rcases h.bit _ (List.getElem_mem hk') with h' | h'
    · rw [e, h']
    · exact absurd (h.rch k (by rw [e, h'])) hr
section
variable {n : Nat} {A : List Arc} (hA : InR n A) (hn : n ≤ 1048576) (hm : A.length ≤ 67108864)
include hA
theorem nxt_in {k : Nat} {x : Int} (h : x ∈ nxt A k) : 0 ≤ x ∧ x < n := by
  obtain ⟨a, h1, _, rfl⟩ := nxt_mem.1 h
  have := hA a h1
  omega
theorem BfsOK.next {v : Nat} {b wk : List Int} {t : Nat} (h : BfsOK n A v b (wk ++ [((t : Nat) : Int)])) : BfsOK n A v ((nxt A t).foldl vis (b, wk)).1 ((nxt A t).foldl vis (b, wk)).2 := by
  have hin : ∀ w ∈ nxt A t, 0 ≤ w ∧ w < (b, wk).1.length := fun w hw => by
    have := nxt_in hA hw
    simp only [h.len]
    exact this
  obtain ⟨k1, k2, k3, k4, k5, k6, k7⟩ := visL_keep (nxt A t) (b, wk) hin h.bit
  have ht := h.inw t (by simp)
  have htr : Rch A v t := h.rch t (by simpa using ht.2.2)
  refine ⟨by rw [visL_len]; exact h.len, k1, fun w hw => ?_, k3 v h.beg, fun k hk => ?_, fun k hk => ?_, ?_⟩
  · rcases k5 w hw with h' | h'
    · have := h.inw w (List.mem_append_left _ h')
      exact ⟨this.1, this.2.1, k3 _ this.2.2⟩
    · have := nxt_in hA h'
      exact ⟨this.1, this.2, k2 w h'⟩
  · rcases k4 k hk with h' | ⟨w, h1, rfl⟩
    · exact h.rch k h'
    · obtain ⟨a, g1, g2, rfl⟩ := nxt_mem.1 h1
      have := Rch.step (A := A) (v := v) (a := a) (by rw [g2]; exact htr) g1
      exact this
  · rcases k7 k hk with h' | h'
    · rcases h.clo k h' with hc | hc
      · rcases List.mem_append.1 hc with hc | hc
        · exact .inl (k6 _ hc)
        · have : k = t := by
            have : (k : Int) = (t : Int) := by simpa using hc
            omega
          subst this
          exact .inr k2
      · exact .inr fun x hx => k3 _ (hc x hx)
    · exact .inl h'
  · rw [visL_ms _ _ hin]
    have := h.ms
    simp only [List.length_append, List.length_singleton] at this
    simp only
    omega
include hn hm
theorem bfs_eq {v : Nat} {b wk : List Int} (h : BfsOK n A v b wk) : lim graph_Graph_Reach_l12_step (some (gr n A), b, wk, ()) = some (.inl (tab n (ind A v), [], ())) := by
  have hex := lim_ex (step := graph_Graph_Reach_l12_step) (x := (some (gr n A), b, wk, ())) (fun x => ∃ b wk, x = (some (gr n A), b, wk, ()) ∧ BfsOK n A v b wk) (fun x => zs x.2.1 + x.2.2.1.length) (fun y => y = .inl (tab n (ind A v), [], ())) (fun x hx => ?_) ⟨b, wk, rfl, h⟩
  · obtain ⟨y, hy, hl⟩ := hex
    exact hl.trans (by rw [hy])
  · obtain ⟨b, wk, rfl, h⟩ := hx
    rcases List.eq_nil_or_concat wk with rfl | ⟨wk', t, rfl⟩
    · left
      refine ⟨_, rfl, fun g => ?_⟩
      unfold graph_Graph_Reach_l12_step
      simp only [List.length_nil]
      rw [← h.done]
      rfl
    · right
      rw [List.concat_eq_append] at h ⊢
      have ht := h.inw t (by simp)
      obtain ⟨k, rfl⟩ : ∃ k : Nat, t = (k : Int) := ⟨t.toNat, by omega⟩
      have hms := h.ms
      simp only [List.length_append, List.length_singleton] at hms
      have hin : ∀ w ∈ nxt A k, 0 ≤ w ∧ w < (b.length : Int) := fun w hw => by
        have := nxt_in hA hw
        rw [h.len]
        exact this
      have hnl : (nxt A k).length ≤ 67108864 := by
        unfold nxt
        rw [List.length_map, sel_len]
        exact Nat.le_trans List.countP_le_length hm
      refine ⟨_, ⟨_, _, rfl, h.next hA⟩, ?_, fun g => ?_⟩
      · simp only
        rw [visL_ms _ _ (by simpa using hin)]
        simp
      · unfold graph_Graph_Reach_l12_step
        have e1 : IntKind.i64.wrap (((wk' ++ [(k : Int)]).length : Int) - 1) = ((wk'.length : Nat) : Int) := by
          rw [wrap64 (by simp) (by simp; omega)]
          simp
        simp only [e1, Int.toNat_natCast]
        rw [show decide (((wk' ++ [(k : Int)]).length : Int) > 0) = true from by simp, cond_true, inB_nat (show wk'.length < (wk' ++ [(k : Int)]).length by simp), ck_true,
          show (decide ((0 : Int) ≤ ((wk'.length : Nat) : Int)) && decide (((wk'.length : Nat) : Int) ≤ ((wk' ++ [(k : Int)]).length : Int))) = true from by simp; omega, ck_true]
        have e2 : (wk' ++ [(k : Int)]).getD wk'.length (Ty.dflt (.int .i64)) = (k : Int) := by simp [List.getD_eq_getElem?_getD]
        have e3 : (wk' ++ [(k : Int)]).take wk'.length = wk' := by simp
        rw [e2, e3, Next_eq hA hn hm (by omega)]
        simp only [Option.bind_some]
        rw [inner_eq hin (by omega) hnl]
        simp only [Option.bind_some, out1_inl]
theorem begin_good {v : Nat} (hv : v < n) : BfsOK n A v ((List.replicate n (0 : Int)).set v 1) [((v : Nat) : Int)] := by
  have hl : ((List.replicate n (0 : Int)).set v 1).length = n := by simp
  have gs : ∀ k, ((List.replicate n (0 : Int)).set v 1).getD k 0 = if k = v then 1 else 0 := fun k => by
    rw [List.getD_eq_getElem?_getD, List.getElem?_set]
    by_cases h : v = k
    · rw [if_pos h, if_pos (by simpa using hv), if_pos h.symm]; rfl
    · rw [if_neg h, if_neg (Ne.symm h), List.getElem?_replicate]
      split <;> rfl
  have h1 : ∀ k, ((List.replicate n (0 : Int)).set v 1).getD k 0 = 1 → k = v := fun k hk => by
    rw [gs] at hk
    split at hk
    · assumption
    · cases hk
  refine ⟨hl, fun x hx => ?_, fun w hw => ?_, by rw [gs, if_pos rfl], fun k hk => by rw [h1 k hk]; exact .refl, fun k hk => .inl (by rw [h1 k hk]; simp), ?_⟩
  · rcases List.mem_or_eq_of_mem_set hx with h | h
    · exact .inl (List.eq_of_mem_replicate h)
    · exact .inr h
  · simp only [List.mem_singleton] at hw
    subst hw
    rw [Int.toNat_natCast, gs, if_pos rfl]
    omega
  · have : zs ((List.replicate n (0 : Int)).set v 1) ≤ n := by
      have := List.countP_le_length (p := fun x : Int => x == 0) (l := (List.replicate n (0 : Int)).set v 1)
      rw [hl] at this
      exact this
    simp only [List.length_singleton]
    omega
/-- Those that are reached, rising. -/
noncomputable def rl (n : Nat) (A : List Arc) (v : Nat) : List Nat := (List.range n).filter fun w => ind A v w == 1
omit hA hm in
theorem out_loop {v : Nat} : lim graph_Graph_Reach_l36_step (([] : List Int), tab n (ind A v), ((tab n (ind A v)).length : Int), (0 : Int), ()) = some (.inl (ofN (rl n A v), tab n (ind A v), ())) := by
  have hlen : (tab n (ind A v)).length = n := tab_len _ _
  rw [hlen]
  refine lim_up (step := graph_Graph_Reach_l36_step) (fun i => (ofN ((List.range i).filter fun w => ind A v w == 1), tab n (ind A v), (n : Int), (i : Int), ())) n (fun g i hi => ?_) (fun g => ?_)
  · unfold graph_Graph_Reach_l36_step
    simp only [dlt hi, cond_true, hlen, inB_nat hi, ck_true, Int.toNat_natCast, tab_get hi, wrap_succ (show i < 9223372036854775807 by omega)]
    unfold graph_Graph_Reach_j149_v
    simp only
    rw [List.range_succ, List.filter_append]
    have hi1 : (ofN ((List.range i).filter fun w => ind A v w == 1)).length ≤ i := by
      unfold ofN
      rw [List.length_map]
      exact Nat.le_trans (List.length_filter_le _ _) (by simp)
    by_cases h : Rch A v i
    · have e : ind A v i = 1 := by unfold ind; rw [if_pos h]
      rw [e]
      rw [show decide ((1 : Int) > 0) = true from rfl, cond_true, roomB_ok (by simp; omega), ck_true]
      simp [List.filter_cons, e, ofN]
    · have e : ind A v i = 0 := by unfold ind; rw [if_neg h]
      rw [e]
      rw [show decide ((0 : Int) > 0) = false from rfl, cond_false]
      simp [List.filter_cons, e]
  · unfold graph_Graph_Reach_l36_step
    simp only [dge (Nat.lt_irrefl _), cond_false]
    rfl
theorem Reach_eq {v : Nat} (hv : v < n) : graph_Graph_Reach (some (gr n A), (v : Int), ()) = some (ofN (rl n A v), ()) := by
  unfold graph_Graph_Reach
  simp only [Nodes_some, Option.bind_some, Option.isSome_some, ck_true, Option.getD_some, show (gr n A).1 = (n : Int) from rfl]
  rw [show decide ((v : Int) < 0) = false from by simp, show decide ((v : Int) ≥ (n : Int)) = false from by simp; omega]
  simp only [Bool.not_false, cond_true, cond_false, Int.toNat_natCast]
  rw [show (decide ((0 : Int) ≤ (n : Int)) && decide ((n : Int) ≤ (n : Int)) && decide ((n : Int) * ((10 : Nat) : Int) ≤ 35184372088832)) = true from by simp; omega, ck_true, inB_nat (by simpa using hv), ck_true, bfs_eq hA hn hm (begin_good hA hn hm hv)]
  simp only [Option.bind_some, out1_inl]
  rw [out_loop hn]
  rfl
end
end Go.XD


/- Plain law of the reference's graphs: Next, Turn, Reach, Nodes; and of the program's turned graph. -/
namespace Go.XD

/-- Where the arcs from a node lead. -/
def rn (A : List Arc) (v : Int) : List Int := (A.filter fun a => a.1 == v).map fun a => a.2.1
theorem rn_len (A : List Arc) (v : Int) : (rn A v).length ≤ A.length := by
  unfold rn
  rw [List.length_map]
  exact List.length_filter_le _ _
theorem rn_snoc (A : List Arc) (a : Arc) (v : Int) : rn (A ++ [a]) v = bif a.1 == v then rn A v ++ [a.2.1] else rn A v := by
  unfold rn
  rw [List.filter_append, List.map_append]
  cases h : (a.1 == v) with
  | true => simp [h]
  | false => simp [h]
theorem rNext_eq (A : List Arc) (v : Int) (hm : A.length ≤ 1000000) : ref10_Next (A, v, ()) = some (rn A v, ()) := by
  have l1 : lim ref10_Next_l6_step (A, v, ([] : List Int), (0 : Int), ()) = some (.inl (rn A v, ())) := by
    have := lim_up (step := ref10_Next_l6_step) (y := .inl (rn A v, ())) (fun i => (A, v, rn (A.take i) v, (i : Int), ())) A.length (fun g i hi => ?_) (fun g => ?_)
    · simpa [rn] using this
    · have hl := rn_len (A.take i) v
      rw [List.length_take] at hl
      unfold ref10_Next_l6_step ref10_Next_j41_v
      simp only [dlt hi, cond_true, inB_nat hi, ck_true, rdL_arc hi, wrap_succ (show i < 9223372036854775807 by omega), take_snoc hi, rn_snoc]
      cases (A[i].1 == v) with
      | true =>
        simp only [cond_true]
        rw [roomB_ok (by simp; omega)]
        rfl
      | false => rfl
    · unfold ref10_Next_l6_step
      simp only [dge (Nat.lt_irrefl _), cond_false, List.take_length]
  unfold ref10_Next
  simp only
  rw [l1]
  rfl
theorem filt_getD (A : List Arc) (p : Arc → Bool) : ((List.range A.length).filter fun j => p (A.getD j (0, 0, ()))).map (fun j => A.getD j (0, 0, ())) = A.filter p := by
  have key : ∀ m, m ≤ A.length → ((List.range m).filter fun j => p (A.getD j (0, 0, ()))).map (fun j => A.getD j (0, 0, ())) = (A.take m).filter p := fun m => by
    induction m with
    | zero => intro _; simp
    | succ m ih =>
      intro hm
      have hlt : m < A.length := by omega
      have e : A.getD m (0, 0, ()) = A[m] := by simp [List.getD_eq_getElem?_getD, hlt]
      rw [List.range_succ, List.filter_append, List.map_append, ih (by omega), take_snoc hlt, List.filter_append]
      congr 1
      simp only [List.filter_cons, List.filter_nil, e]
      split <;> simp [hlt]
  have := key A.length (Nat.le_refl _)
  rw [List.take_length] at this
  exact this
theorem nxt_rn {n : Nat} {A : List Arc} (hA : InR n A) (v : Nat) : nxt A v = rn A (v : Int) := by
  have h1 : nxt A v = (A.filter fun a => ndN false a == v).map fun a => a.2.1 := by
    unfold nxt sel
    rw [← filt_getD A (fun a => ndN false a == v), List.map_map]
    rfl
  rw [h1]
  unfold rn
  congr 1
  apply List.filter_congr
  intro a ha
  have := hA a ha
  unfold ndN nd
  simp only [cond_false]
  rw [Bool.eq_iff_iff, beq_iff_eq, beq_iff_eq]
  omega
theorem rn_out {n : Nat} {A : List Arc} (hA : InR n A) {v : Int} (h : v < 0 ∨ v ≥ (n : Int)) : rn A v = [] := by
  unfold rn
  rw [List.map_eq_nil_iff, List.filter_eq_nil_iff]
  intro a ha
  have := hA a ha
  simp only [beq_iff_eq]
  omega

/-! ### Reach -/
theorem rch_in {n : Nat} {A : List Arc} (hA : InR n A) {v k : Nat} (hv : v < n) (h : Rch A v k) : k < n := by
  induction h with
  | refl => exact hv
  | step _ ha _ => exact (hA.nd true ha).2
/-- One round's look at an arc. -/
def rcF (_ : Nat) (s : List Int × Bool) (a : Arc) : List Int × Bool := bif (s.1.getD a.1.toNat 0 == 1) && (s.1.getD a.2.1.toNat 0 == 0) then (s.1.set a.2.1.toNat 1, true) else s
structure RcOK (n : Nat) (A : List Arc) (v : Nat) (b : List Int) : Prop where
  len : b.length = n
  v1 : b.getD v 0 = 1
  bits : ∀ k, k < n → b.getD k 0 = 0 ∨ b.getD k 0 = 1
  rch : ∀ k, b.getD k 0 = 1 → Rch A v k
theorem getD_set {b : List Int} {k j : Nat} {x : Int} (hk : k < b.length) : (b.set k x).getD j 0 = if k = j then x else b.getD j 0 := by
  simp only [List.getD_eq_getElem?_getD, List.getElem?_set]
  by_cases h : k = j
  · subst h
    simp [hk]
  · simp [h]
theorem rcF_ok {n : Nat} {A : List Arc} (hA : InR n A) {v : Nat} {b : List Int} {c : Bool} {a : Arc} (ha : a ∈ A) (h : RcOK n A v b) (i : Nat) : RcOK n A v (rcF i (b, c) a).1 ∧ zs (rcF i (b, c) a).1 ≤ zs b ∧ ((rcF i (b, c) a).2 = true → c = true ∨ zs (rcF i (b, c) a).1 < zs b) ∧ (c = true → (rcF i (b, c) a).2 = true) ∧
    ((rcF i (b, c) a).2 = false → (rcF i (b, c) a).1 = b ∧ (b.getD a.1.toNat 0 = 1 → b.getD a.2.1.toNat 0 = 1)) := by
  have hr := hA a ha
  unfold rcF
  simp only
  cases hc : (b.getD a.1.toNat 0 == 1) && (b.getD a.2.1.toNat 0 == 0) with
  | false =>
    refine ⟨h, Nat.le_refl _, fun e => .inl e, fun e => e, fun _ => ⟨rfl, fun e => ?_⟩⟩
    rcases h.bits a.2.1.toNat (by omega) with h0 | h0
    · rw [e, h0] at hc; cases hc
    · exact h0
  | true =>
    rw [Bool.and_eq_true, beq_iff_eq, beq_iff_eq] at hc
    have hk : a.2.1.toNat < b.length := by rw [h.len]; omega
    have hz : b[a.2.1.toNat] = 0 := by
      have := hc.2
      rw [List.getD_eq_getElem?_getD, List.getElem?_eq_getElem hk] at this
      exact this
    have hzs := zs_set hk hz
    simp only [cond_true]
    refine ⟨⟨by rw [List.length_set]; exact h.len, ?_, fun k hk' => ?_, fun k hk' => ?_⟩, by omega, fun _ => .inr (by omega), fun _ => trivial, fun e => by cases e⟩
    · rw [getD_set hk]
      split
      · rfl
      · exact h.v1
    · rw [getD_set hk]
      split
      · exact .inr rfl
      · exact h.bits k hk'
    · rw [getD_set hk] at hk'
      split at hk'
      · rename_i e
        have := Rch.step (A := A) (v := v) (a := a) (by
          show Rch A v a.1.toNat
          exact h.rch _ hc.1) ha
        rw [← e]
        exact this
      · exact h.rch k hk'
theorem rc_pass {n : Nat} {A : List Arc} (hA : InR n A) {v : Nat} : ∀ (l : List Arc) (i : Nat) (b : List Int) (c : Bool), (∀ a ∈ l, a ∈ A) → RcOK n A v b → RcOK n A v (foldI rcF i (b, c) l).1 ∧ zs (foldI rcF i (b, c) l).1 ≤ zs b ∧ ((foldI rcF i (b, c) l).2 = true → c = true ∨ zs (foldI rcF i (b, c) l).1 < zs b) ∧ (c = true → (foldI rcF i (b, c) l).2 = true) ∧
    ((foldI rcF i (b, c) l).2 = false → (foldI rcF i (b, c) l).1 = b ∧ ∀ a ∈ l, b.getD a.1.toNat 0 = 1 → b.getD a.2.1.toNat 0 = 1)
  | [], i, b, c, _, h => ⟨h, Nat.le_refl _, fun e => .inl e, fun e => e, fun _ => ⟨rfl, fun a ha => by cases ha⟩⟩
  | a :: l, i, b, c, hl, h => by
    obtain ⟨h1, h2, h3, h4, h5⟩ := rcF_ok hA (c := c) (hl a List.mem_cons_self) h i
    simp only [foldI]
    obtain ⟨b', c', e⟩ : ∃ b' c', rcF i (b, c) a = (b', c') := ⟨_, _, rfl⟩
    rw [e] at h1 h2 h3 h4 h5 ⊢
    simp only at h1 h2 h3 h4 h5
    obtain ⟨k1, k2, k3, k4, k5⟩ := rc_pass hA l (i + 1) b' c' (fun x hx => hl x (List.mem_cons_of_mem _ hx)) h1
    refine ⟨k1, by omega, fun hc => ?_, fun hc => k4 (h4 hc), fun hf => ?_⟩
    · rcases k3 hc with hc' | hz
      · rcases h3 hc' with h | h
        · exact .inl h
        · exact .inr (by omega)
      · exact .inr (by omega)
    · obtain ⟨q1, q2⟩ := k5 hf
      have hc' : c' = false := by
        cases hcc : c' with
        | false => rfl
        | true => rw [k4 hcc] at hf; cases hf
      obtain ⟨q3, q4⟩ := h5 hc'
      subst q3
      refine ⟨q1, fun x hx => ?_⟩
      rcases List.mem_cons.1 hx with rfl | hx
      · exact q4
      · exact q2 x hx
theorem rc_loop {n : Nat} {A : List Arc} (hA : InR n A) (hm : A.length ≤ 1000000) {v : Nat} {b : List Int} (h : RcOK n A v b) :
    lim ref10_Reach_l14_step (A, b, false, (0 : Int), ()) = some (.inl ((foldI rcF 0 (b, false) A).2, (foldI rcF 0 (b, false) A).1, ())) := by
  refine lim_foldI (step := ref10_Reach_l14_step) A rcF (fun s i => (A, s.1, s.2, (i : Int), ())) (fun s => .inl (s.2, s.1, ())) (fun i s => s.1.length = n) (fun g i s hi hinv => ?_) (fun i s hi hinv => ?_) (fun g s _ => ?_) (s0 := (b, false)) h.len
  · have hr := hA A[i] (List.getElem_mem hi)
    have i1 : inB A[i].1 s.1.length = true := by
      unfold inB
      simp
      omega
    have i2 : inB A[i].2.1 s.1.length = true := by
      unfold inB
      simp
      omega
    unfold ref10_Reach_l14_step ref10_Reach_j83_v rcF
    simp only [dlt hi, cond_true, inB_nat hi, ck_true, rdL_arc hi, wrap_succ (show i < 9223372036854775807 by omega), i1, i2, Bool.true_or, cond_and]
    rw [show Ty.dflt (.int .i64) = (0 : Int) from rfl]
    cases (s.1.getD A[i].1.toNat 0 == 1) && (s.1.getD A[i].2.1.toNat 0 == 0) <;> rfl
  · unfold rcF
    cases (s.1.getD A[i].1.toNat 0 == 1) && (s.1.getD A[i].2.1.toNat 0 == 0) with
    | true => simpa using hinv
    | false => exact hinv
  · unfold ref10_Reach_l14_step
    simp only [dge (Nat.lt_irrefl _), cond_false]
theorem rc_done {n : Nat} {A : List Arc} (hA : InR n A) {v : Nat} (hv : v < n) {b : List Int} (h : RcOK n A v b) (hc : ∀ a ∈ A, b.getD a.1.toNat 0 = 1 → b.getD a.2.1.toNat 0 = 1) : b = tab n (ind A v) := by
  have h1 : ∀ k, Rch A v k → b.getD k 0 = 1 := fun k hk => by
    induction hk with
    | refl => exact h.v1
    | step _ ha ih => exact hc _ ha ih
  rw [tab_of b, h.len]
  refine tab_ext fun k hk => ?_
  unfold ind
  split
  · rename_i hr
    exact h1 k hr
  · rename_i hr
    rcases h.bits k hk with e | e
    · exact e
    · exact absurd (h.rch k e) hr
theorem rc_outer {n : Nat} {A : List Arc} (hA : InR n A) (hm : A.length ≤ 1000000) {v : Nat} (hv : v < n) {b : List Int} (h : RcOK n A v b) : lim ref10_Reach_l8_step (A, b, true, ()) = some (.inl (tab n (ind A v), ())) := by
  have hex := lim_ex (step := ref10_Reach_l8_step) (x := (A, b, true, ())) (fun x => ∃ b c, x = (A, b, c, ()) ∧ RcOK n A v b ∧ (c = false → ∀ a ∈ A, b.getD a.1.toNat 0 = 1 → b.getD a.2.1.toNat 0 = 1)) (fun x => 2 * zs x.2.1 + (bif x.2.2.1 then 1 else 0)) (fun y => y = .inl (tab n (ind A v), ())) (fun x hx => ?_) ⟨b, true, rfl, h, fun e => by cases e⟩
  · obtain ⟨y, rfl, hl⟩ := hex
    exact hl
  · obtain ⟨b, c, rfl, h, hc⟩ := hx
    cases c with
    | false =>
      left
      refine ⟨_, rfl, fun g => ?_⟩
      unfold ref10_Reach_l8_step
      simp only [cond_false]
      rw [← rc_done hA hv h (hc rfl)]
    | true =>
      right
      obtain ⟨k1, k2, k3, k4, k5⟩ := rc_pass hA A 0 b false (fun a ha => ha) h
      refine ⟨_, ⟨(foldI rcF 0 (b, false) A).1, (foldI rcF 0 (b, false) A).2, rfl, k1, fun e => ?_⟩, ?_, fun g => ?_⟩
      · obtain ⟨q1, q2⟩ := k5 e
        rw [q1]
        exact q2
      · simp only
        cases e : (foldI rcF 0 (b, false) A).2 with
        | true =>
          rcases k3 e with h | h
          · cases h
          · simp only [cond_true]; omega
        | false => simp only [cond_true, cond_false]; omega
      · unfold ref10_Reach_l8_step
        simp only [cond_true]
        rw [rc_loop hA hm h]
        rfl
theorem rReach_eq {n : Nat} {A : List Arc} (hA : InR n A) (hn : n ≤ 1000000) (hm : A.length ≤ 1000000) {v : Nat} (hv : v < n) : ref10_Reach ((n : Int), A, (v : Int), ()) = some (tab n (ind A v), ()) := by
  have h0 : RcOK n A v ((List.replicate n (0 : Int)).set v 1) := by
    have hl : v < (List.replicate n (0 : Int)).length := by simpa using hv
    have hz : ∀ k, (List.replicate n (0 : Int)).getD k 0 = 0 := fun k => by
      rw [List.getD_eq_getElem?_getD, List.getElem?_replicate]
      split <;> rfl
    refine ⟨by simp, by rw [getD_set hl, if_pos rfl], fun k hk => ?_, fun k hk => ?_⟩
    · rw [getD_set hl]
      split
      · exact .inr rfl
      · exact .inl (hz k)
    · rw [getD_set hl] at hk
      split at hk
      · rename_i e
        exact e ▸ Rch.refl
      · rw [hz] at hk; cases hk
  unfold ref10_Reach
  simp only
  rw [show (decide ((0 : Int) ≤ (n : Int)) && decide ((n : Int) ≤ (n : Int)) && decide ((n : Int) * ((10 : Nat) : Int) ≤ 35184372088832)) = true from by simp; omega, ck_true, Int.toNat_natCast, Int.toNat_natCast, inB_nat (by simpa using hv), ck_true, rc_outer hA hm hv h0]
  rfl
theorem rNodes_eq (n : Nat) (g : Nat → Int) (hn : n ≤ 1000000) : ref10_Nodes (tab n g, ()) = some (ofN ((List.range n).filter fun w => g w == 1), ()) := by
  have l1 : lim ref10_Nodes_l6_step (tab n g, ([] : List Int), (0 : Int), ()) = some (.inl (ofN ((List.range n).filter fun w => g w == 1), ())) := by
    have := lim_up (step := ref10_Nodes_l6_step) (y := .inl (ofN ((List.range n).filter fun w => g w == 1), ())) (fun i => (tab n g, ofN ((List.range i).filter fun w => g w == 1), (i : Int), ())) n (fun g' i hi => ?_) (fun g' => ?_)
    · exact this
    · have hl : (ofN ((List.range i).filter fun w => g w == 1)).length ≤ i := by
        unfold ofN
        rw [List.length_map]
        exact Nat.le_trans (List.length_filter_le _ _) (by simp)
      unfold ref10_Nodes_l6_step ref10_Nodes_j33_v
      simp only [tab_len, dlt hi, cond_true, inB_nat hi, ck_true, rdL_tab hi, wrap_succ (show i < 9223372036854775807 by omega)]
      rw [List.range_succ, List.filter_append]
      cases hg : (g i == (1 : Int)) with
      | true =>
        simp only [cond_true]
        rw [roomB_ok (by simp; omega)]
        simp [ofN, hg]
      | false => simp [ofN, hg]
    · unfold ref10_Nodes_l6_step
      simp only [tab_len, dge (Nat.lt_irrefl _), cond_false]
  unfold ref10_Nodes
  simp only
  rw [l1]
  rfl

/-! ### Turned -/
def trn (A : List Arc) : List Arc := A.map fun a => (a.2.1, a.1, ())
theorem trn_inR {n : Nat} {A : List Arc} (hA : InR n A) : InR n (trn A) := fun a ha => by
  obtain ⟨b, hb, rfl⟩ := List.mem_map.1 ha
  have := hA b hb
  simp only
  omega
theorem trn_len (A : List Arc) : (trn A).length = A.length := by simp [trn]
theorem rTurn_eq (A : List Arc) (hm : A.length ≤ 1000000) : ref10_Turn (A, ()) = some (trn A, ()) := by
  have l1 : lim ref10_Turn_l6_step (A, ([] : List Arc), (0 : Int), ()) = some (.inl (trn A, ())) := by
    have := lim_up (step := ref10_Turn_l6_step) (y := .inl (trn A, ())) (fun i => (A, trn (A.take i), (i : Int), ())) A.length (fun g i hi => ?_) (fun g => ?_)
    · simpa [trn] using this
    · unfold ref10_Turn_l6_step
      simp only [dlt hi, cond_true, inB_nat hi, ck_true, rdL_arc hi, wrap_succ (show i < 9223372036854775807 by omega), take_snoc hi]
      rw [roomB_ok (by simp [trn]; omega), ck_true]
      simp only [trn, List.map_append, List.map_cons, List.map_nil]
    · unfold ref10_Turn_l6_step
      simp only [dge (Nat.lt_irrefl _), cond_false, List.take_length]
  unfold ref10_Turn
  simp only
  rw [l1]
  rfl
theorem ndN_trn (b : Bool) (a : Arc) : ndN b (a.2.1, a.1, ()) = ndN (!b) a := by cases b <;> rfl
theorem trn_getD (A : List Arc) (j : Nat) : (trn A).getD j (0, 0, ()) = ((A.getD j (0, 0, ())).2.1, (A.getD j (0, 0, ())).1, ()) := by
  unfold trn
  by_cases h : j < A.length
  · simp [List.getD_eq_getElem?_getD, h]
  · simp [List.getD_eq_getElem?_getD, List.getElem?_eq_none (Nat.le_of_not_lt h)]
theorem CB_trn (b : Bool) (A : List Arc) (v : Nat) : CB b (trn A) v = CB (!b) A v := by
  unfold CB trn
  rw [List.countP_map]
  congr 1
  funext a
  simp only [Function.comp, ndN_trn]
theorem cn_trn (b : Bool) (A : List Arc) (v : Nat) : cn b (trn A) v = cn (!b) A v := by
  unfold cn trn
  rw [List.countP_map]
  congr 1
  funext a
  simp only [Function.comp, ndN_trn]
theorem trn_take (A : List Arc) (j : Nat) : (trn A).take j = trn (A.take j) := by simp [trn, List.map_take]
theorem pos_trn (b : Bool) (A : List Arc) (j : Nat) : pos b (trn A) j = pos (!b) A j := by
  unfold pos
  rw [trn_getD, ndN_trn, CB_trn, trn_take, cn_trn]
theorem outF_trn (b : Bool) (A : List Arc) (i p : Nat) : outF b (trn A) i p = outF (!b) A i p := by
  unfold outF
  have e : (fun j => pos b (trn A) j == p) = fun j => pos (!b) A j == p := by
    funext j
    rw [pos_trn]
  rw [e]
theorem gr_trn (n : Nat) (A : List Arc) : gr n (trn A) = ((n : Int), trn A, tab A.length (outF true A A.length), tab A.length (outF false A A.length), tab (n + 1) (fun j => (CB true A j : Nat)), tab (n + 1) (fun j => (CB false A j : Nat)), ()) := by
  have e1 : ∀ b, outF b (trn A) A.length = outF (!b) A A.length := fun b => by
    funext p
    exact outF_trn b A _ p
  unfold gr
  rw [trn_len, e1, e1]
  simp only [CB_trn, Bool.not_false, Bool.not_true]
theorem Turn_eq {n : Nat} {A : List Arc} (hm : A.length ≤ 1000000) : graph_Graph_Turn (some (gr n A), ()) = some (some (gr n (trn A)), ()) := by
  have l1 : ∀ u v w z : List Int, lim graph_Graph_Turn_l10_step (((n : Int), List.replicate A.length (((0 : Int), (0 : Int), ()) : V_easementref08_Pair), u, v, w, z, ()), A, (A.length : Int), (0 : Int), ()) = some (.inl (((n : Int), trn A, u, v, w, z, ()), ())) := fun u v w z => by
    have := lim_up (step := graph_Graph_Turn_l10_step) (y := .inl (((n : Int), trn A, u, v, w, z, ()), ())) (fun i => (((n : Int), (trn A).take i ++ List.replicate (A.length - i) (((0 : Int), (0 : Int), ()) : V_easementref08_Pair), u, v, w, z, ()), A, (A.length : Int), (i : Int), ())) A.length (fun g i hi => ?_) (fun g => ?_)
    · simpa using this
    · have hlen : ((trn A).take i ++ List.replicate (A.length - i) (((0 : Int), (0 : Int), ()) : V_easementref08_Pair)).length = A.length := by
        simp [trn]
        omega
      unfold graph_Graph_Turn_l10_step
      simp only [dlt hi, cond_true, inB_nat hi, ck_true, hlen, rdL_arc hi, wrap_succ (show i < 9223372036854775807 by omega), Int.toNat_natCast]
      congr 3
      refine congrArg (fun t => (t, u, v, w, z, ())) ?_
      apply List.ext_getElem?
      intro k
      have ht : i < (trn A).length := by rw [trn_len]; exact hi
      rw [List.getElem?_set, hlen]
      by_cases hk : i = k
      · subst hk
        rw [if_pos rfl, if_pos hi, List.getElem?_append_left (by rw [List.length_take, trn_len]; omega), List.getElem?_take_of_lt (by omega), List.getElem?_eq_getElem ht]
        simp [trn]
      · rw [if_neg hk]
        by_cases hlt : k < i
        · rw [List.getElem?_append_left (by rw [List.length_take, trn_len]; omega), List.getElem?_append_left (by rw [List.length_take, trn_len]; omega), List.getElem?_take_of_lt hlt, List.getElem?_take_of_lt (by omega)]
        · rw [List.getElem?_append_right (by rw [List.length_take, trn_len]; omega), List.getElem?_append_right (by rw [List.length_take, trn_len]; omega), List.length_take, List.length_take, trn_len]
          rw [List.getElem?_replicate, List.getElem?_replicate]
          by_cases hkl : k < A.length
          · rw [if_pos (by omega), if_pos (by omega)]
          · rw [if_neg (by omega), if_neg (by omega)]
    · unfold graph_Graph_Turn_l10_step
      simp only [dge (Nat.lt_irrefl _), cond_false]
      rw [← trn_len A, List.take_length, Nat.sub_self]
      simp
  unfold graph_Graph_Turn
  simp only [Option.isNone_some, Option.isSome_some, cond_false, ck_true, Option.getD_some]
  have e1 : (gr n A).2.1 = A := rfl
  simp only [e1]
  rw [show (decide ((0 : Int) ≤ (A.length : Int)) && decide ((A.length : Int) ≤ (A.length : Int)) && decide ((A.length : Int) * ((19 : Nat) : Int) ≤ 35184372088832)) = true from by simp; omega, ck_true, Int.toNat_natCast]
  rw [gr_trn]
  change Option.bind (lim graph_Graph_Turn_l10_step (((n : Int), List.replicate A.length (((0 : Int), (0 : Int), ()) : V_easementref08_Pair), tab A.length (outF true A A.length), tab A.length (outF false A A.length), tab (n + 1) (fun j => (CB true A j : Nat)), tab (n + 1) (fun j => (CB false A j : Nat)), ()), A, (A.length : Int), (0 : Int), ())) _ = _
  rw [l1]
  rfl
end Go.XD


/- Plain law of the package flow: the arcs between points, and the reference's. -/
namespace Go.XD

/-- By points: something of each statement, and of each terminator. -/
def ptL {α : Type} (f : V_api_Prov → α) (g : V_api_Term → α) : Blks → List α
  | [] => []
  | x :: r => x.1.map f ++ g x.2 :: ptL f g r
theorem PS_cons' (x : V_api_Block) (r : Blks) (k : Nat) : PS (x :: r) (k + 1) = x.1.length + 1 + PS r k := by simp [PS]
theorem ptL_len {α : Type} (f : V_api_Prov → α) (g : V_api_Term → α) : ∀ (B : Blks), (ptL f g B).length = PS B B.length
  | [] => by simp [ptL, PS]
  | x :: r => by
    rw [List.length_cons, PS_cons', ← ptL_len f g r]
    simp [ptL]
    omega
theorem ptL_st {α : Type} (f : V_api_Prov → α) (g : V_api_Term → α) : ∀ {B : Blks} {k j : Nat} (hk : k < B.length) (hj : j < B[k].1.length), (ptL f g B)[PS B k + j]? = some (f B[k].1[j])
  | x :: r, 0, j, hk, hj => by
    simp only [List.getElem_cons_zero] at hj ⊢
    rw [PS_zero, Nat.zero_add]
    unfold ptL
    rw [List.getElem?_append_left (by simpa using hj)]
    simp [hj]
  | x :: r, k + 1, j, hk, hj => by
    simp only [List.getElem_cons_succ] at hj ⊢
    rw [PS_cons']
    unfold ptL
    rw [List.getElem?_append_right (by simp; omega), List.length_map, show x.1.length + 1 + PS r k + j - x.1.length = PS r k + j + 1 by omega, List.getElem?_cons_succ]
    exact ptL_st f g (B := r) (by simpa using hk) hj
theorem ptL_tm {α : Type} (f : V_api_Prov → α) (g : V_api_Term → α) : ∀ {B : Blks} {k : Nat} (hk : k < B.length), (ptL f g B)[PS B k + B[k].1.length]? = some (g B[k].2)
  | x :: r, 0, hk => by
    simp only [List.getElem_cons_zero]
    rw [PS_zero, Nat.zero_add]
    unfold ptL
    rw [List.getElem?_append_right (by simp), List.length_map, Nat.sub_self]
    rfl
  | x :: r, k + 1, hk => by
    simp only [List.getElem_cons_succ]
    rw [PS_cons']
    unfold ptL
    have hk' : k < r.length := by simpa using hk
    rw [List.getElem?_append_right (by simp; omega), List.length_map, show x.1.length + 1 + PS r k + r[k].1.length - x.1.length = PS r k + r[k].1.length + 1 by omega, List.getElem?_cons_succ]
    exact ptL_tm f g (B := r) hk'
/-- Where terminators lead. -/
def tgs (B : Blks) : List (Option (List Int)) := ptL (fun _ => none) (fun t => some t.2.2.2.1) B
def fst' (B : Blks) (i : Int) : Int := ((PS B i.toNat : Nat) : Int)
/-- Where one goes from a point. -/
def nxP (B : Blks) (n : Nat) : List Int := match (tgs B)[n]? with
  | some (some l) => rset (l.map (fst' B))
  | _ => [((n + 1 : Nat) : Int)]
/-- The arcs of the first points. -/
def arcN (T : Nat → List Int) : Nat → List Arc
  | 0 => []
  | n + 1 => arcN T n ++ (T n).map fun m => ((n : Int), m, ())
theorem arcN_len (T : Nat → List Int) (k : Nat) : ∀ {n : Nat}, (∀ i, i < n → (T i).length ≤ k) → (arcN T n).length ≤ n * k
  | 0, _ => by simp [arcN]
  | n + 1, h => by
    have h1 := arcN_len T k (n := n) (fun i hi => h i (by omega))
    have h2 := h n (by omega)
    simp only [arcN, List.length_append, List.length_map, Nat.succ_mul]
    omega
theorem arcN_in {T : Nat → List Int} {N : Nat} : ∀ {n : Nat}, n ≤ N → (∀ i, i < n → ∀ x ∈ T i, 0 ≤ x ∧ x < N) → InR N (arcN T n)
  | 0, _, _ => fun a ha => by cases ha
  | n + 1, hn, h => fun a ha => by
    simp only [arcN, List.mem_append, List.mem_map] at ha
    rcases ha with ha | ⟨m, hm, rfl⟩
    · exact arcN_in (n := n) (by omega) (fun i hi => h i (by omega)) a ha
    · have := h n (by omega) m hm
      simp only
      omega
/-- What a well-formed body's blocks keep. -/
structure FlowOK (B : Blks) : Prop where
  ok : BOK B
  to : ∀ x ∈ B, x.2.2.2.2.1.length ≤ 16 ∧ ∀ i ∈ x.2.2.2.2.1, 0 ≤ i ∧ i < B.length
theorem flow_ok {b : V_api_Body} (h : Sml b) : FlowOK (blB b) := by
  refine ⟨blB_ok h, fun x hx => ?_⟩
  unfold blB at hx ⊢
  cases hk : (chk b).1 == 0 with
  | false => rw [hk] at hx; cases hx
  | true =>
    rw [hk] at hx
    have hw := (wf_of hk).tm x hx
    refine ⟨?_, (teS_ok hw).2.1⟩
    unfold teS at hw
    cases h1 : teF x.2 != 0 with
    | true => rw [h1] at hw; simp only [cond_true] at hw; rw [hw] at h1; cases h1
    | false =>
      have hf : teF x.2 = 0 := by simpa using h1
      exact (teF_many hf).1
section
variable {B : Blks} (h : FlowOK B)
include h
theorem fst_lt {i : Int} (hi : 0 ≤ i ∧ i < B.length) : fst' B i < ((PS B B.length : Nat) : Int) := by
  unfold fst'
  have h1 : i.toNat < B.length := by omega
  have := PS_strict B h1 (Nat.le_refl _)
  omega
theorem nxP_in {n : Nat} (hn : n < PS B B.length) : (nxP B n).length ≤ 16 ∧ Ris (nxP B n) ∧ ∀ x ∈ nxP B n, 0 ≤ x ∧ x < ((PS B B.length : Nat) : Int) := by
  obtain ⟨k, k1, k2, k3⟩ := pt_of hn
  have hps := PS_succ B k1
  unfold nxP
  by_cases he : n - PS B k = B[k].1.length
  · have e1 := ptL_tm (fun _ => none) (fun t : V_api_Term => some t.2.2.2.1) k1
    rw [← he, show PS B k + (n - PS B k) = n by omega] at e1
    unfold tgs
    rw [e1]
    simp only
    obtain ⟨q1, q2⟩ := h.to B[k] (List.getElem_mem k1)
    refine ⟨Nat.le_trans (rset_len _) (by simpa using q1), rset_ris _, fun x hx => ?_⟩
    rw [rset_mem] at hx
    obtain ⟨i, hi, rfl⟩ := List.mem_map.1 hx
    exact ⟨by unfold fst'; omega, fst_lt h (q2 i hi)⟩
  · have hj : n - PS B k < B[k].1.length := by omega
    have e1 := ptL_st (fun _ => none) (fun t : V_api_Term => some t.2.2.2.1) k1 hj
    rw [show PS B k + (n - PS B k) = n by omega] at e1
    unfold tgs
    rw [e1]
    simp only
    have h2 := PS_mono B (i := k + 1) (j := B.length) k1 (Nat.le_refl _)
    refine ⟨by simp, by simp [Ris], fun x hx => ?_⟩
    simp only [List.mem_singleton] at hx
    omega
end
end Go.XD


/- Plain law of the package flow: New, and the reference's arcs. -/
namespace Go.XD

section
variable {B : Blks} (h : FlowOK B)
include h

/-! ### The program's -/
theorem to_loop {l : List Int} (hl : l.length ≤ 16) (hi : ∀ i ∈ l, 0 ≤ i ∧ i < B.length) :
    lim flow_New_l22_step ((some (pts B, ()), (), ()), ([] : List Int), l, (l.length : Int), (0 : Int), ()) = some (.inl (l.map (fst' B), (some (pts B, ()), (), ()), ())) := by
  have := lim_up (step := flow_New_l22_step) (y := .inl (l.map (fst' B), (some (pts B, ()), (), ()), ())) (fun i => ((some (pts B, ()), (), ()), (l.take i).map (fst' B), l, (l.length : Int), (i : Int), ())) l.length (fun g i hk => ?_) (fun g => ?_)
  · simpa using this
  · have hr := hi l[i] (List.getElem_mem hk)
    have hin : inP B l[i] 0 := by
      obtain ⟨k, hk'⟩ : ∃ k : Nat, l[i] = k := ⟨l[i].toNat, by omega⟩
      rw [hk'] at hr ⊢
      have := PS_succ B (show k < B.length by omega)
      refine ⟨hr.1, hr.2, Int.le_refl _, ?_⟩
      rw [Int.toNat_natCast]
      omega
    have hp := pOf_in h.ok hin
    unfold flow_New_l22_step
    simp only [dlt hk, cond_true, inB_nat hk, ck_true, rdL_nat (.int .i64) l hk, wrap_succ (show i < 9223372036854775807 by omega), take_snoc hk]
    rw [hp]
    simp only [Option.bind_some]
    rw [roomB_ok (by simp; omega), ck_true, List.map_append]
    simp only [List.map_cons, List.map_nil, fst', Int.add_zero]
  · unfold flow_New_l22_step
    simp only [dge (Nat.lt_irrefl _), cond_false, List.take_length]
omit h in
theorem arc_loop {acc : List Arc} {n : Int} {l : List Int} (ha : acc.length + l.length ≤ 1000) :
    lim flow_New_l36_step (acc, n, l, (l.length : Int), (0 : Int), ()) = some (.inl (acc ++ l.map (fun m => (n, m, ())), l, ())) := by
  have := lim_up (step := flow_New_l36_step) (y := .inl (acc ++ l.map (fun m => (n, m, ())), l, ())) (fun i => (acc ++ (l.take i).map (fun m => (n, m, ())), n, l, (l.length : Int), (i : Int), ())) l.length (fun g i hk => ?_) (fun g => ?_)
  · simpa using this
  · unfold flow_New_l36_step
    have e : l.getD i (Ty.dflt (.int .i64)) = l[i] := by simp [List.getD_eq_getElem?_getD, hk]
    simp only [dlt hk, cond_true, inB_nat hk, ck_true, wrap_succ (show i < 9223372036854775807 by omega), take_snoc hk, Int.toNat_natCast, e]
    rw [roomB_ok (by simp; omega), ck_true, List.map_append, List.append_assoc]
    rfl
  · unfold flow_New_l36_step
    simp only [dge (Nat.lt_irrefl _), cond_false, List.take_length]
theorem fNew_loop (b : V_api_Body) (hb : B = [] ∨ b.2.2.2.2.2.2.1 = B) :
    lim flow_New_l8_step (b, (some (pts B, ()), (), ()), ([] : List Arc), ((PS B B.length : Nat) : Int), (0 : Int), ()) = some (.inl (arcN (nxP B) (PS B B.length), b, (some (pts B, ()), (), ()), ())) := by
  have h32 := h.ok.ps B.length
  refine lim_up (step := flow_New_l8_step) (fun i => (b, (some (pts B, ()), (), ()), arcN (nxP B) i, ((PS B B.length : Nat) : Int), (i : Int), ())) (PS B B.length) (fun g n hn => ?_) (fun g => ?_)
  · obtain ⟨k, k1, k2, k3, k4⟩ := pAt_eq h.ok hn
    have k5 := pEnds_eq h.ok k1 k2 k3 k4
    have hbB : b.2.2.2.2.2.2.1 = B := by
      rcases hb with rfl | hb
      · simp at k1
      · exact hb
    have hps := PS_succ B k1
    have hal := arcN_len (nxP B) 16 (n := n) (fun i hi => (nxP_in h (by omega)).1)
    have hnl := nxP_in h hn
    unfold flow_New_l8_step
    simp only [dlt hn, cond_true]
    change Option.bind (point_Points_At (some (pts B, ()), (n : Int), ())) _ = _
    rw [k4]
    simp only [Option.bind_some]
    change Option.bind (point_Points_Ends (some (pts B, ()), (n : Int), ())) _ = _
    rw [k5]
    simp only [Option.bind_some, hbB, inB_nat k1, ck_true, rdL_nat t_api_Block B k1, wrap_succ (show n < 9223372036854775807 by omega)]
    by_cases he : n - PS B k = B[k].1.length
    · rw [show (((n - PS B k : Nat) : Int) == ((PS B (k + 1) - PS B k - 1 : Nat) : Int)) = true from beq_iff_eq.2 (by omega)]
      simp only [Bool.not_true, cond_false]
      have e1 := ptL_tm (fun _ => none) (fun t : V_api_Term => some t.2.2.2.1) k1
      rw [← he, show PS B k + (n - PS B k) = n by omega] at e1
      have e2 : nxP B n = rset (B[k].2.2.2.2.1.map (fst' B)) := by
        unfold nxP tgs
        rw [e1]
      obtain ⟨q1, q2⟩ := h.to B[k] (List.getElem_mem k1)
      rw [to_loop h q1 q2]
      simp only [Option.bind_some, out1_inl]
      rw [show cpt (srt (B[k].2.2.2.2.1.map (fst' B))) = nxP B n from e2.symm, arc_loop (by omega)]
      rfl
    · rw [show (((n - PS B k : Nat) : Int) == ((PS B (k + 1) - PS B k - 1 : Nat) : Int)) = false from beq_eq_false_iff_ne.2 (by omega)]
      simp only [Bool.not_false, cond_true]
      have hj : n - PS B k < B[k].1.length := by omega
      have e1 := ptL_st (fun _ => none) (fun t : V_api_Term => some t.2.2.2.1) k1 hj
      rw [show PS B k + (n - PS B k) = n by omega] at e1
      have e2 : nxP B n = [((n + 1 : Nat) : Int)] := by
        unfold nxP tgs
        rw [e1]
      rw [roomB_ok (by simp; omega), ck_true]
      simp only [arcN, e2, List.map_cons, List.map_nil]
  · unfold flow_New_l8_step
    simp only [dge (Nat.lt_irrefl _), cond_false]
theorem arcs_ok : InR (PS B B.length) (arcN (nxP B) (PS B B.length)) ∧ (arcN (nxP B) (PS B B.length)).length ≤ 512 := by
  have h32 := h.ok.ps B.length
  refine ⟨arcN_in (Nat.le_refl _) (fun i hi => (nxP_in h hi).2.2), ?_⟩
  have := arcN_len (nxP B) 16 (n := PS B B.length) (fun i hi => (nxP_in h hi).1)
  omega
end
/-- The flow. -/
noncomputable def flw (B : Blks) : V_flow_Flow := (some (pts B, ()), some (gr (PS B B.length) (arcN (nxP B) (PS B B.length))), ())
theorem fNew_eq (b : V_api_Body) (hs : Sml b) : flow_New (b, ()) = some (some (flw (blB b)), ()) := by
  have h := flow_ok hs
  have hb : blB b = [] ∨ b.2.2.2.2.2.2.1 = blB b := by
    unfold blB
    cases (chk b).1 == 0
    · exact .inl rfl
    · exact .inr rfl
  obtain ⟨a1, a2⟩ := arcs_ok h
  have h32 := h.ok.ps (blB b).length
  unfold flow_New
  simp only
  rw [pNew_eq b hs]
  simp only [Option.bind_some]
  rw [pLen_eq h.ok]
  simp only [Option.bind_some]
  rw [fNew_loop h b hb]
  simp only [Option.bind_some, out1_inl]
  rw [pLen_eq h.ok]
  simp only [Option.bind_some]
  unfold flow_least
  rw [New_eq a1 (by omega) (by omega)]
  rfl

/-! ### The reference's -/
theorem selN {T : List Int} {N : Nat} {p : Nat → Bool} (hr : Ris T) (hT : ∀ x ∈ T, 0 ≤ x ∧ x < (N : Int)) (hp : ∀ m, m < N → p m = T.contains (m : Int)) : ofN ((List.range N).filter p) = T := by
  refine ris_unique ?_ hr fun x => ?_
  · unfold ofN Ris
    rw [List.pairwise_map]
    refine List.Pairwise.imp ?_ (List.Pairwise.sublist List.filter_sublist List.pairwise_lt_range)
    intro a b hab
    omega
  · unfold ofN
    constructor
    · intro hx
      obtain ⟨i, hi, rfl⟩ := List.mem_map.1 hx
      obtain ⟨h1, h2⟩ := List.mem_filter.1 hi
      rw [hp i (List.mem_range.1 h1)] at h2
      simpa using h2
    · intro hx
      have := hT x hx
      obtain ⟨k, rfl⟩ : ∃ k : Nat, x = k := ⟨x.toNat, by omega⟩
      exact List.mem_map.2 ⟨k, List.mem_filter.2 ⟨List.mem_range.2 (by omega), by rw [hp k (by omega)]; simpa using hx⟩, rfl⟩
section
variable {B : Blks} (h : FlowOK B)
include h
theorem goes_eq {b : V_api_Body} (hb : b.2.2.2.2.2.2.1 = B) {n m : Nat} (hn : n < PS B B.length) (hm : m < PS B B.length) : ref23_Goes (b, aP B B.length, (n : Int), (m : Int), ()) = some ((nxP B n).contains (m : Int), ()) := by
  have h32 := h.ok.ps B.length
  have hL : (aP B B.length).length = PS B B.length := aP_len B (Nat.le_refl _)
  obtain ⟨k, k1, k2, k3⟩ := pt_of hn
  have hp := aP_get k1 k2 k3
  have hps := PS_succ B k1
  have hnl : n < (aP B B.length).length := by omega
  rw [List.getElem?_eq_getElem hnl] at hp
  simp only [Option.some.injEq] at hp
  unfold ref23_Goes
  simp only [inB_nat hnl, ck_true, rdL_nat t_easementref22_Point (aP B B.length) hnl, hp]
  by_cases he : n - PS B k = B[k].1.length
  · rw [show (((n - PS B k : Nat) : Int) == ((PS B (k + 1) - PS B k - 1 : Nat) : Int)) = true from beq_iff_eq.2 (by omega)]
    simp only [Bool.not_true, cond_false, hb, inB_nat k1, ck_true, rdL_nat t_api_Block B k1]
    have e1 := ptL_tm (fun _ => none) (fun t : V_api_Term => some t.2.2.2.1) k1
    rw [← he, show PS B k + (n - PS B k) = n by omega] at e1
    have e2 : nxP B n = rset (B[k].2.2.2.2.1.map (fst' B)) := by
      unfold nxP tgs
      rw [e1]
    obtain ⟨q1, q2⟩ := h.to B[k] (List.getElem_mem k1)
    have l1 := lim_any (step := ref23_Goes_l10_step) B[k].2.2.2.2.1 (fun i => fst' B i == (m : Int)) (fun i => (aP B B.length, (m : Int), B[k].2.2.2.2.1, (i : Int), ())) (yes := .inl (true, ())) (no := .inr (.inl ())) (fun g i hi => by
      have hr := q2 _ (List.getElem_mem hi)
      have hin : inP B B[k].2.2.2.2.1[i] 0 := by
        obtain ⟨j, hj⟩ : ∃ j : Nat, B[k].2.2.2.2.1[i] = j := ⟨B[k].2.2.2.2.1[i].toNat, by omega⟩
        rw [hj] at hr ⊢
        have := PS_succ B (show j < B.length by omega)
        refine ⟨hr.1, hr.2, Int.le_refl _, ?_⟩
        rw [Int.toNat_natCast]
        omega
      unfold ref23_Goes_l10_step
      simp only [dlt hi, cond_true, inB_nat hi, ck_true, rdL_nat (.int .i64) _ hi, wrap_succ (show i < 9223372036854775807 by omega)]
      rw [(rOf_eq h.ok _ _).1 hin]
      simp only [Option.bind_some, cond_true, Int.add_zero]
      rfl) (fun g => by
      unfold ref23_Goes_l10_step
      simp only [dge (Nat.lt_irrefl _), cond_false])
    have e3 : (B[k].2.2.2.2.1.any fun i => fst' B i == (m : Int)) = (nxP B n).contains (m : Int) := by
      rw [e2, Bool.eq_iff_iff, List.any_eq_true, List.contains_iff_mem, rset_mem, List.mem_map]
      simp only [beq_iff_eq]
    rw [e3] at l1
    rw [show lim ref23_Goes_l10_step (aP B B.length, (m : Int), B[k].2.2.2.2.1, (0 : Int), ()) = _ from l1]
    cases (nxP B n).contains (m : Int) <;> rfl
  · rw [show (((n - PS B k : Nat) : Int) == ((PS B (k + 1) - PS B k - 1 : Nat) : Int)) = false from beq_eq_false_iff_ne.2 (by omega)]
    have hj : n - PS B k < B[k].1.length := by omega
    have e1 := ptL_st (fun _ => none) (fun t : V_api_Term => some t.2.2.2.1) k1 hj
    rw [show PS B k + (n - PS B k) = n by omega] at e1
    have e2 : nxP B n = [((n + 1 : Nat) : Int)] := by
      unfold nxP tgs
      rw [e1]
    simp only [Bool.not_false, cond_true, wrap_succ (show n < 9223372036854775807 by omega), e2, List.contains_cons, List.contains_nil, Bool.or_false]
theorem row_loop' {b : V_api_Body} (hb : b.2.2.2.2.2.2.1 = B) {n : Nat} (hn : n < PS B B.length) {acc : List Arc} (ha : acc.length ≤ 1000) :
    lim ref23_Arcs_l14_step (b, aP B B.length, acc, (n : Int), (0 : Int), ()) = some (.inl (acc ++ (nxP B n).map (fun m => ((n : Int), m, ())), b, ())) := by
  have h32 := h.ok.ps B.length
  have hL : (aP B B.length).length = PS B B.length := aP_len B (Nat.le_refl _)
  obtain ⟨x1, x2, x3⟩ := nxP_in h hn
  have hsel := selN (p := fun m => (nxP B n).contains (m : Int)) x2 x3 (fun m hm => rfl)
  have := lim_up (step := ref23_Arcs_l14_step) (y := .inl (acc ++ (nxP B n).map (fun m => ((n : Int), m, ())), b, ())) (fun i => (b, aP B B.length, acc ++ (ofN ((List.range i).filter fun m => (nxP B n).contains (m : Int))).map (fun m => ((n : Int), m, ())), (n : Int), (i : Int), ())) (PS B B.length) (fun g i hi => ?_) (fun g => ?_)
  · simpa [ofN] using this
  · have hl : (ofN ((List.range i).filter fun m => (nxP B n).contains (m : Int))).length ≤ i := by
      unfold ofN
      rw [List.length_map]
      exact Nat.le_trans (List.length_filter_le _ _) (by simp)
    unfold ref23_Arcs_l14_step ref23_Arcs_j53_v
    simp only [hL, dlt hi, cond_true]
    rw [goes_eq h hb hn hi]
    simp only [Option.bind_some, wrap_succ (show i < 9223372036854775807 by omega)]
    rw [List.range_succ, List.filter_append]
    cases hg : (nxP B n).contains (i : Int) with
    | true =>
      simp only [cond_true]
      rw [roomB_ok (by simp only [List.length_append, List.length_map, List.length_cons, List.length_nil]; omega)]
      simp only [ck_true, Option.bind_some, out1_inl, List.filter_cons, hg, if_true, List.filter_nil]
      simp [ofN]
    | false =>
      simp only [cond_false, Option.bind_some, out1_inl, List.filter_cons, hg, Bool.false_eq_true, if_false, List.filter_nil, List.append_nil]
  · unfold ref23_Arcs_l14_step
    simp only [hL, dge (Nat.lt_irrefl _), cond_false]
    rw [hsel]
theorem all_loop' {b : V_api_Body} (hb : B = [] ∨ b.2.2.2.2.2.2.1 = B) : lim ref23_Arcs_l8_step (b, aP B B.length, ([] : List Arc), (0 : Int), ()) = some (.inl (arcN (nxP B) (PS B B.length), b, ())) := by
  have h32 := h.ok.ps B.length
  have hL : (aP B B.length).length = PS B B.length := aP_len B (Nat.le_refl _)
  refine lim_up (step := ref23_Arcs_l8_step) (fun i => (b, aP B B.length, arcN (nxP B) i, (i : Int), ())) (PS B B.length) (fun g n hn => ?_) (fun g => ?_)
  · have hbB : b.2.2.2.2.2.2.1 = B := by
      rcases hb with rfl | hb
      · simp [PS] at hn
      · exact hb
    have hal := arcN_len (nxP B) 16 (n := n) (fun i hi => (nxP_in h (by omega)).1)
    unfold ref23_Arcs_l8_step
    simp only [hL, dlt hn, cond_true]
    rw [row_loop' h hbB hn (by omega)]
    simp only [Option.bind_some, out1_inl, wrap_succ (show n < 9223372036854775807 by omega)]
    rfl
  · unfold ref23_Arcs_l8_step
    simp only [hL, dge (Nat.lt_irrefl _), cond_false]
end
theorem rArcs_eq (b : V_api_Body) (hs : Sml b) : ref23_Arcs (b, ()) = some (arcN (nxP (blB b)) (PS (blB b) (blB b).length), ()) := by
  have h := flow_ok hs
  have hb : blB b = [] ∨ b.2.2.2.2.2.2.1 = blB b := by
    unfold blB
    cases (chk b).1 == 0
    · exact .inl rfl
    · exact .inr rfl
  unfold ref23_Arcs
  simp only
  rw [All_eq b hs]
  simp only [Option.bind_some]
  rw [all_loop' h hb]
  rfl
end Go.XD


/- Plain law of the package flow: Next, Back, Reached, Stops, and the steps of Order. -/
namespace Go.XD

theorem lim_step {A B : Type} {step : (A → Option B) → A → Option B} {x x' : A} (h : ∀ g, step g x = g x') : lim step x = lim step x' := by
  have hk : ∀ k, iter step (k + 1) x = iter step k x' := fun k => by simp only [iter]; exact h _
  have e : ∀ y, (∃ m, ∀ k, m ≤ k → iter step k x = some y) ↔ (∃ m, ∀ k, m ≤ k → iter step k x' = some y) := fun y => by
    constructor
    · rintro ⟨m, hm⟩
      exact ⟨m, fun k hk' => by rw [← hk]; exact hm (k + 1) (by omega)⟩
    · rintro ⟨m, hm⟩
      refine ⟨m + 1, fun k hk' => ?_⟩
      obtain ⟨j, rfl⟩ : ∃ j, k = j + 1 := ⟨k - 1, by omega⟩
      rw [hk]
      exact hm j (by omega)
  cases h1 : lim step x with
  | some y =>
    unfold lim at h1
    split at h1
    · rename_i hh
      obtain ⟨m, hm⟩ := (e _).1 hh.choose_spec
      simp only [Option.some.injEq] at h1
      rw [← h1]
      exact (lim_eq m hm).symm
    · cases h1
  | none =>
    cases h2 : lim step x' with
    | none => rfl
    | some y =>
      unfold lim at h2
      split at h2
      · rename_i hh
        obtain ⟨m, hm⟩ := (e _).2 hh.choose_spec
        rw [lim_eq m hm] at h1
        cases h1
      · cases h2
theorem lim_end {A B : Type} {step : (A → Option B) → A → Option B} {x : A} {y : B} (h : ∀ g, step g x = some y) : lim step x = some y :=
  lim_eq 1 fun k hk => by
    obtain ⟨j, rfl⟩ : ∃ j, k = j + 1 := ⟨k - 1, by omega⟩
    simp only [iter]
    exact h _

section
variable {n : Nat} {A : List Arc} (hA : InR n A) (hn : n ≤ 1000) (hm : A.length ≤ 1000000)
include hA hn hm
theorem gNext_in {v : Nat} (hv : v < n) : graph_Graph_Next (some (gr n A), (v : Int), ()) = some (rn A (v : Int), ()) := by
  rw [Next_eq hA (by omega) (by omega) hv, nxt_rn hA]
theorem gNext_eq (v : Int) : graph_Graph_Next (some (gr n A), v, ()) = some (rn A v, ()) := by
  by_cases h : v < 0 ∨ v ≥ (n : Int)
  · rw [rn_out hA h]
    have h1 : graph_Graph_Out_p0 (some (gr n A), v, ()) = some (.inl ([], ())) := by
      unfold graph_Graph_Out_p0
      by_cases h0 : v < 0
      · rw [show (!decide (v < 0)) = false from by simpa using h0]
        rfl
      · have h2 : v ≥ (n : Int) := by omega
        simp only [show (!decide (v < 0)) = true from by simpa using h0, cond_true, Nodes_some, Option.bind_some]
        rw [show decide (v ≥ (gr n A).1) = true from decide_eq_true h2]
        rfl
    unfold graph_Graph_Next
    simp only [h1, Option.bind_some, out1_inl]
    rw [show lim graph_Graph_Next_l6_step (some (gr n A), ([] : List Int), ((List.length ([] : List Int) : Nat) : Int), (0 : Int), ()) = some (.inl ([], ())) from lim_end fun g => rfl]
    rfl
  · obtain ⟨k, rfl⟩ : ∃ k : Nat, v = k := ⟨v.toNat, by omega⟩
    exact gNext_in hA hn hm (by omega)
end

/-! ### The steps of Order -/
abbrev Fr := V_flow_frame
/-- The first that was not met, and what is behind it. -/
def scan (been : List Int) : List Int → Option (Int × List Int)
  | [] => none
  | m :: r => bif been.getD m.toNat 0 == 0 then some (m, r) else scan been r
section
variable {n : Nat} {A : List Arc} (hA : InR n A) (hn : n ≤ 1000) (hm : A.length ≤ 1000000)
include hA hn hm
theorem scan_loop {been : List Int} (hb : been.length = n) {cs : List Fr} (hc : cs.length ≤ 2000) (t : Int) : ∀ (next : List Int), (∀ m ∈ next, 0 ≤ m ∧ m < n) →
    lim flow_Flow_Order_l24_step (some (gr n A), been, cs ++ [(t, next, ())], cs.length, ()) = some (match scan been next with
      | none => .inr (.inl (cs ++ [(t, [], ())], been, ()))
      | some (m, r) => .inl (cs ++ [(t, r, ())] ++ [(m, rn A m, ())], been.set m.toNat 1, ()))
  | [], _ => by
    refine lim_end fun g => ?_
    unfold flow_Flow_Order_l24_step
    have e : (cs ++ [(t, ([] : List Int), ())]).getD cs.length (Ty.dflt t_flow_frame) = (t, [], ()) := by simp [List.getD_eq_getElem?_getD]
    simp only [e]
    rfl
  | m :: r, hin => by
    have hm1 := hin m List.mem_cons_self
    have e : (cs ++ [(t, m :: r, ())]).getD cs.length (Ty.dflt t_flow_frame) = (t, m :: r, ()) := by simp [List.getD_eq_getElem?_getD]
    have hset : ∀ f : Fr, (cs ++ [(t, m :: r, ())]).set cs.length f = cs ++ [f] := fun f => by simp
    have i1 : inB m been.length = true := by
      unfold inB
      simp
      omega
    have hd : List.drop (1 : Int).toNat (m :: r) = r := rfl
    have hr0 : rdL (.int .i64) (m :: r) (0 : Int) = m := rfl
    have hdef : Ty.dflt (.int .i64) = (0 : Int) := rfl
    have g0 : decide (((m :: r).length : Int) > 0) = true := by simp
    have g1 : inB (0 : Int) (m :: r).length = true := inB_nat (i := 0) (by simp)
    have g2 : (decide (0 ≤ (1 : Int)) && decide ((1 : Int) ≤ ((m :: r).length : Int))) = true := by simp; omega
    have hb0 : Nat.beq cs.length cs.length = true := Nat.beq_refl _
    cases hc0 : (been.getD m.toNat 0 == (0 : Int)) with
    | true =>
      have hs : scan been (m :: r) = some (m, r) := by simp only [scan, hc0, cond_true]
      rw [hs]
      refine lim_end fun g => ?_
      unfold flow_Flow_Order_l24_step
      simp only [e, hset, hd, hr0, hdef, g0, g1, g2, i1, hc0, cond_true, ck_true]
      rw [gNext_eq hA hn hm m]
      simp only [Option.bind_some]
      rw [roomB_ok (by simp; omega)]
      rfl
    | false =>
      have hs : scan been (m :: r) = scan been r := by simp only [scan, hc0, cond_false]
      rw [hs, ← scan_loop hb hc t r (fun x hx => hin x (List.mem_cons_of_mem _ hx))]
      refine lim_step fun g => ?_
      unfold flow_Flow_Order_l24_step
      simp only [e, hset, hd, hr0, hdef, g0, g1, g2, i1, hc0, hb0, cond_true, cond_false, ck_true]
theorem ord_step {been out : List Int} (hb : been.length = n) {cs : List Fr} (hc : cs.length ≤ 2000) (ho : out.length ≤ 2000) (t : Int) (next : List Int) (hin : ∀ m ∈ next, 0 ≤ m ∧ m < n) :
    lim flow_Flow_Order_l20_step (some (gr n A), been, out, cs ++ [(t, next, ())], ()) = match scan been next with
      | none => lim flow_Flow_Order_l20_step (some (gr n A), been, out ++ [t], cs, ())
      | some (m, r) => lim flow_Flow_Order_l20_step (some (gr n A), been.set m.toNat 1, out, cs ++ [(t, r, ())] ++ [(m, rn A m, ())], ()) := by
  have hl : ((cs ++ [(t, next, ())]).length : Int) = ((cs.length + 1 : Nat) : Int) := by simp
  have e1 : IntKind.i64.wrap (((cs.length + 1 : Nat) : Int) - 1) = (cs.length : Int) := by
    rw [wrap64 (by omega) (by omega)]
    omega
  have g0 : decide (((cs.length + 1 : Nat) : Int) > 0) = true := by simp
  have g1 : inB (cs.length : Int) (cs ++ [(t, next, ())]).length = true := inB_nat (by simp)
  have hb0 : Nat.beq cs.length cs.length = true := Nat.beq_refl _
  have hs := scan_loop hA hn hm hb hc t next hin
  cases hsc : scan been next with
  | none =>
    rw [hsc] at hs
    refine lim_step fun g => ?_
    have e2 : (cs ++ [(t, ([] : List Int), ())]).getD cs.length (Ty.dflt t_flow_frame) = (t, [], ()) := by simp [List.getD_eq_getElem?_getD]
    have e3 : (cs ++ [(t, ([] : List Int), ())]).take cs.length = cs := by simp
    have hl2 : ((cs ++ [(t, ([] : List Int), ())]).length : Int) = ((cs.length + 1 : Nat) : Int) := by simp
    have g3 : (decide ((0 : Int) ≤ (cs.length : Int)) && decide ((cs.length : Int) ≤ ((cs.length + 1 : Nat) : Int))) = true := by simp; omega
    unfold flow_Flow_Order_l20_step
    simp only [hl, e1, g0, g1, hb0, Int.toNat_natCast, cond_true, ck_true, hs, Option.bind_some, out2_inr, e2, hl2, e3, g3]
    rw [roomB_ok (by simp; omega)]
    rfl
  | some p =>
    obtain ⟨m, r⟩ := p
    rw [hsc] at hs
    refine lim_step fun g => ?_
    unfold flow_Flow_Order_l20_step
    simp only [hl, e1, g0, g1, hb0, Int.toNat_natCast, cond_true, ck_true, hs, Option.bind_some, out2_inl]
theorem ord_end {been out : List Int} : lim flow_Flow_Order_l20_step (some (gr n A), been, out, ([] : List Fr), ()) = some (.inl (out, been, ([] : List Fr), ())) := lim_end fun g => rfl
end
end Go.XD


/- Plain law of FlowTells. -/
namespace Go.XD

theorem SameF_refl {l : List Int} (hl : l.length ≤ 67108864) : ref01_Same (l, l, ()) = some (true, ()) := by
  have : lim ref01_Same_l8_step (l, l, (0 : Int), ()) = some (.inr (.inl ())) := by
    refine lim_up (step := ref01_Same_l8_step) (fun i => (l, l, (i : Int), ())) l.length (fun g i hi => ?_) (fun g => ?_)
    · unfold ref01_Same_l8_step
      simp only [dlt hi, cond_true, inB_nat hi, ck_true, bne_self_eq_false, cond_false, wrap_succ (show i < 9223372036854775807 by omega)]
    · unfold ref01_Same_l8_step
      simp only [dge (Nat.lt_irrefl _), cond_false]
  unfold ref01_Same
  simp only [bne_self_eq_false, cond_false]
  rw [this]
  rfl
/-- The points from which one goes nowhere. -/
def stp (A : List Arc) (i : Nat) : List Int := ofN ((List.range i).filter fun (k : Nat) => ((rn A (k : Int)).length : Int) == 0)
theorem stp_len (A : List Arc) (i : Nat) : (stp A i).length ≤ i := by
  unfold stp ofN
  rw [List.length_map]
  exact Nat.le_trans (List.length_filter_le _ _) (by simp)
theorem stp_succ (A : List Arc) (i : Nat) : stp A (i + 1) = bif ((rn A (i : Int)).length : Int) == 0 then stp A i ++ [(i : Int)] else stp A i := by
  unfold stp
  rw [List.range_succ, List.filter_append]
  cases h : (((rn A (i : Int)).length : Int) == 0) with
  | true => simp only [List.filter_cons, h, if_true, List.filter_nil, cond_true]; simp [ofN]
  | false => simp only [List.filter_cons, h, Bool.false_eq_true, if_false, List.filter_nil, cond_false, List.append_nil]
section
variable {n : Nat} {A : List Arc} {p : Option V_point_Points} (hA : InR n A) (hn : n ≤ 1000) (hm : A.length ≤ 1000)
omit hA hn hm
theorem fgr_eq : flow_Flow_graph (some (p, some (gr n A), ()), ()) = some (some (gr n A), ()) := rfl
include hA hn hm
theorem fNext_eq (v : Int) : flow_Flow_Next (some (p, some (gr n A), ()), v, ()) = some (rn A v, ()) := by
  unfold flow_Flow_Next
  simp only [fgr_eq, Option.bind_some]
  rw [gNext_eq hA hn (by omega)]
  rfl
theorem fBack_eq (v : Int) : flow_Flow_Back (some (p, some (gr n A), ()), v, ()) = some (rn (trn A) v, ()) := by
  unfold flow_Flow_Back
  simp only [fgr_eq, Option.bind_some]
  rw [Turn_eq (by omega)]
  simp only [Option.bind_some]
  rw [gNext_eq (trn_inR hA) hn (by rw [trn_len]; omega)]
  rfl
theorem fReach_eq (h0 : 0 < n) : flow_Flow_Reached (some (p, some (gr n A), ()), ()) = some (ofN (rl n A 0), ()) := by
  unfold flow_Flow_Reached
  simp only [fgr_eq, Option.bind_some]
  have := Reach_eq hA (by omega) (by omega) (v := 0) h0
  rw [show graph_Graph_Reach (some (gr n A), (0 : Int), ()) = _ from this]
  rfl
theorem fStops_eq : flow_Flow_Stops (some (p, some (gr n A), ()), ()) = some (stp A n, ()) := by
  unfold flow_Flow_Stops
  simp only [fgr_eq, Option.bind_some, Nodes_some]
  have l1 : lim flow_Flow_Stops_l6_step (some (p, some (gr n A), ()), ([] : List Int), (gr n A).1, (0 : Int), ()) = some (.inl (stp A n, ())) := by
    refine lim_up (step := flow_Flow_Stops_l6_step) (fun i => (some (p, some (gr n A), ()), stp A i, (gr n A).1, (i : Int), ())) n (fun g i hi => ?_) (fun g => ?_)
    · have hl := stp_len A i
      unfold flow_Flow_Stops_l6_step flow_Flow_Stops_j31_v
      simp only [show decide ((i : Int) < (gr n A).1) = true from dlt hi, cond_true]
      rw [fNext_eq hA hn hm]
      simp only [Option.bind_some, wrap_succ (show i < 9223372036854775807 by omega), stp_succ]
      cases (((rn A (i : Int)).length : Int) == 0) with
      | true =>
        simp only [cond_true]
        rw [roomB_ok (by simp; omega)]
        rfl
      | false => rfl
    · unfold flow_Flow_Stops_l6_step
      simp only [show decide ((n : Int) < (gr n A).1) = false from dge (Nat.lt_irrefl _), cond_false]
  rw [l1]
  rfl
end
theorem order_nil {A : List Arc} {p : Option V_point_Points} : flow_Flow_Order (some (p, some (gr 0 A), ()), ()) = some ([], ()) := by
  unfold flow_Flow_Order
  simp only [fgr_eq, Option.bind_some, Nodes_some]
  have e : (gr 0 A).1 = (0 : Int) := rfl
  rw [e, show (decide ((0 : Int) ≤ 0) && decide ((0 : Int) ≤ 0) && decide ((0 : Int) * ((10 : Nat) : Int) ≤ 35184372088832)) = true from by decide, ck_true]
  rw [show lim flow_Flow_Order_l10_step (some (gr 0 A), List.replicate (0 : Int).toNat (0 : Int), ([] : List Int), (0 : Int), (0 : Int), ()) = some (.inl ([], List.replicate (0 : Int).toNat (0 : Int), ())) from lim_end fun g => rfl]
  rfl

/-! ### The example -/
def b23 : V_api_Body := ((1 : Int), (1 : Int), ([] : List V_easementref08_Pair), [(([] : List V_api_Slot), ())], ([] : List V_api_Slot), ([] : List V_api_Sig), [([((0 : Int), (0 : Int), (0 : Int), (0 : Int), false, ())], (1 : Int), (0 : Int), (0 : Int), [(0 : Int)], ([] : List Int), ([] : List Int), ())], ())
theorem b23_sml : Sml b23 := ⟨by decide, by decide, by intro t ht; simp [b23] at ht; subst ht; simp, by decide, by decide, by decide, by decide, by decide⟩
theorem b23_bl : blB b23 = b23.2.2.2.2.2.2.1 := by
  unfold blB
  rw [show ((chk b23).1 == 0) = true from by decide +kernel]
  rfl
def a23 : List Arc := [((0 : Int), (1 : Int), ()), ((1 : Int), (0 : Int), ())]
theorem rset1' (x : Int) : rset [x] = [x] := rset_eq (by simp [Ris]) (fun y => Iff.rfl)
theorem flw23 : flw (blB b23) = (some (pts b23.2.2.2.2.2.2.1, ()), some (gr 2 a23), ()) := by
  rw [b23_bl]
  unfold flw
  have hN : PS b23.2.2.2.2.2.2.1 b23.2.2.2.2.2.2.1.length = 2 := rfl
  rw [hN]
  have h0 : nxP b23.2.2.2.2.2.2.1 0 = [1] := rfl
  have h1 : nxP b23.2.2.2.2.2.2.1 1 = [0] := by
    show rset [0] = [0]
    exact rset1' 0
  have : arcN (nxP b23.2.2.2.2.2.2.1) 2 = a23 := by
    simp only [arcN, h0, h1]
    rfl
  rw [this]
theorem a23_in : InR 2 a23 := fun a ha => by
  simp [a23] at ha
  rcases ha with rfl | rfl <;> simp
theorem order23 {p : Option V_point_Points} : flow_Flow_Order (some (p, some (gr 2 a23), ()), ()) = some ([1, 0], ()) := by
  have nx0 : rn a23 0 = [1] := rfl
  have nx1 : rn a23 1 = [0] := rfl
  have s1 := ord_step a23_in (by omega) (by simp [a23]) (been := [1, 0]) (out := []) rfl (cs := []) (by simp) (by simp) 0 [1] (by simp)
  have s2 := ord_step a23_in (by omega) (by simp [a23]) (been := [1, 1]) (out := []) rfl (cs := [((0 : Int), ([] : List Int), ())]) (by simp) (by simp) 1 [0] (by simp)
  have s3 := ord_step a23_in (by omega) (by simp [a23]) (been := [1, 1]) (out := [1]) rfl (cs := []) (by simp) (by simp) 0 [] (by simp)
  have l20 : lim flow_Flow_Order_l20_step (some (gr 2 a23), [1, 0], ([] : List Int), [((0 : Int), [(1 : Int)], ())], ()) = some (.inl ([1, 0], [1, 1], ([] : List Fr), ())) := by
    refine Eq.trans (show _ = _ from s1) ?_
    show lim flow_Flow_Order_l20_step (some (gr 2 a23), [1, 1], ([] : List Int), [((0 : Int), ([] : List Int), ())] ++ [((1 : Int), rn a23 1, ())], ()) = _
    rw [nx1, s2]
    show lim flow_Flow_Order_l20_step (some (gr 2 a23), [1, 1], ([] : List Int) ++ [1], [((0 : Int), ([] : List Int), ())], ()) = _
    refine Eq.trans (show _ = _ from s3) ?_
    exact ord_end a23_in (by omega) (by simp [a23])
  unfold flow_Flow_Order
  simp only [fgr_eq, Option.bind_some, Nodes_some]
  have e : (gr 2 a23).1 = (2 : Int) := rfl
  rw [e, show (decide ((0 : Int) ≤ 2) && decide ((2 : Int) ≤ 2) && decide ((2 : Int) * ((10 : Nat) : Int) ≤ 35184372088832)) = true from by decide, ck_true]
  have l10 : lim flow_Flow_Order_l10_step (some (gr 2 a23), List.replicate (2 : Int).toNat (0 : Int), ([] : List Int), (2 : Int), (0 : Int), ()) = some (.inl ([1, 0], [1, 1], ())) := by
    have t1 : lim flow_Flow_Order_l10_step (some (gr 2 a23), List.replicate (2 : Int).toNat (0 : Int), ([] : List Int), (2 : Int), (0 : Int), ()) = lim flow_Flow_Order_l10_step (some (gr 2 a23), [1, 1], [1, 0], (2 : Int), (1 : Int), ()) := by
      refine lim_step fun g => ?_
      have hn0 := gNext_eq a23_in (by omega) (by simp [a23]) (0 : Int)
      rw [nx0] at hn0
      refine Eq.trans (b := Option.bind (graph_Graph_Next (some (gr 2 a23), (0 : Int), ())) (fun y4 => Option.bind (lim flow_Flow_Order_l20_step (some (gr 2 a23), [1, 0], ([] : List Int), [((0 : Int), y4)], ())) fun y9 => out1 y9 fun z10 => g (some (gr 2 a23), z10.2.1, z10.1, (2 : Int), IntKind.i64.wrap ((0 : Int) + 1), ()))) rfl ?_
      rw [hn0]
      simp only [Option.bind_some]
      rw [l20]
      rfl
    have t2 : lim flow_Flow_Order_l10_step (some (gr 2 a23), [1, 1], [1, 0], (2 : Int), (1 : Int), ()) = lim flow_Flow_Order_l10_step (some (gr 2 a23), [1, 1], [1, 0], (2 : Int), (2 : Int), ()) := lim_step fun g => rfl
    rw [t1, t2]
    exact lim_end fun g => rfl
  rw [l10]
  rfl
theorem awake23 : law23_awake () = some (true, ()) := by
  have hB : BOK b23.2.2.2.2.2.2.1 := b23_bl ▸ blB_ok b23_sml
  unfold law23_awake
  change Option.bind (flow_New (b23, ())) _ = _
  rw [fNew_eq _ b23_sml, flw23]
  simp only [Option.bind_some]
  rw [fNext_eq a23_in (by omega) (by simp [a23]), show rn a23 0 = [1] from rfl]
  simp only [Option.bind_some]
  rw [SameF_refl (by simp)]
  simp only [Option.bind_some, cond_true]
  rw [fNext_eq a23_in (by omega) (by simp [a23]), show rn a23 1 = [0] from rfl]
  simp only [Option.bind_some]
  rw [SameF_refl (by simp)]
  simp only [Option.bind_some, cond_true]
  rw [order23]
  simp only [Option.bind_some]
  rw [SameF_refl (by simp)]
  simp only [Option.bind_some, cond_true]
  rw [show flow_Flow_Points (some (some (pts b23.2.2.2.2.2.2.1, ()), some (gr 2 a23), ()), ()) = some (some (pts b23.2.2.2.2.2.2.1, ()), ()) from rfl]
  simp only [Option.bind_some]
  rw [pLen_eq hB]
  rfl
end Go.XD


/- Plain law of the package flow: what Order tells. -/
namespace Go.XD

theorem rn_mem {A : List Arc} {t m : Int} : m ∈ rn A t ↔ ∃ a ∈ A, a.1 = t ∧ a.2.1 = m := by
  unfold rn
  rw [List.mem_map]
  constructor
  · rintro ⟨a, h1, h2⟩
    obtain ⟨h3, h4⟩ := List.mem_filter.1 h1
    exact ⟨a, h3, by simpa using h4, h2⟩
  · rintro ⟨a, h1, h2, h3⟩
    exact ⟨a, List.mem_filter.2 ⟨h1, by simpa using h2⟩, h3⟩
theorem rn_rng {n : Nat} {A : List Arc} (hA : InR n A) {t m : Int} (h : m ∈ rn A t) : 0 ≤ m ∧ m < n := by
  obtain ⟨a, h1, _, rfl⟩ := rn_mem.1 h
  have := hA a h1
  omega
theorem rch_arc {A : List Arc} {v : Nat} {t m : Int} (h : Rch A v t.toNat) (hm : m ∈ rn A t) : Rch A v m.toNat := by
  obtain ⟨a, h1, rfl, rfl⟩ := rn_mem.1 hm
  exact Rch.step (a := a) h h1
theorem scan_none {been : List Int} : ∀ {l : List Int}, scan been l = none → ∀ m ∈ l, been.getD m.toNat 0 ≠ 0
  | [], _, m, hm => by cases hm
  | x :: r, h, m, hm => by
    simp only [scan] at h
    cases hx : (been.getD x.toNat 0 == 0) with
    | true => rw [hx] at h; cases h
    | false =>
      rw [hx] at h
      rcases List.mem_cons.1 hm with rfl | hm
      · exact beq_eq_false_iff_ne.1 hx
      · exact scan_none h m hm
theorem scan_some {been : List Int} : ∀ {l : List Int} {m : Int} {r : List Int}, scan been l = some (m, r) → been.getD m.toNat 0 = 0 ∧ m ∈ l ∧ (∀ x ∈ r, x ∈ l) ∧ ∀ x ∈ l, x ∈ r ∨ x = m ∨ been.getD x.toNat 0 ≠ 0
  | [], _, _, h => by simp [scan] at h
  | y :: l, m, r, h => by
    simp only [scan] at h
    cases hx : (been.getD y.toNat 0 == 0) with
    | true =>
      rw [hx] at h
      simp only [cond_true, Option.some.injEq, Prod.mk.injEq] at h
      obtain ⟨rfl, rfl⟩ := h
      refine ⟨beq_iff_eq.1 hx, List.mem_cons_self, fun x hx => List.mem_cons_of_mem _ hx, fun x hx => ?_⟩
      rcases List.mem_cons.1 hx with rfl | hx
      · exact .inr (.inl rfl)
      · exact .inl hx
    | false =>
      rw [hx] at h
      obtain ⟨h1, h2, h3, h4⟩ := scan_some (l := l) h
      refine ⟨h1, List.mem_cons_of_mem _ h2, fun x hx => List.mem_cons_of_mem _ (h3 x hx), fun x hx' => ?_⟩
      rcases List.mem_cons.1 hx' with rfl | hx'
      · exact .inr (.inr (beq_eq_false_iff_ne.1 hx))
      · exact h4 x hx'
/-- What holds as one goes. -/
structure DfsI (n : Nat) (A : List Arc) (been out : List Int) (cs : List Fr) : Prop where
  blen : been.length = n
  bits : ∀ k, k < n → been.getD k 0 = 0 ∨ been.getD k 0 = 1
  mark : ∀ w : Int, 0 ≤ w → w < n → (been.getD w.toNat 0 = 1 ↔ w ∈ out ∨ w ∈ cs.map (·.1))
  nd : (out ++ cs.map (·.1)).Nodup
  rng : ∀ w ∈ out ++ cs.map (·.1), 0 ≤ w ∧ w < (n : Int)
  stk : cs.Pairwise fun f g => Rch A f.1.toNat g.1.toNat
  fr : ∀ f ∈ cs, (∀ m ∈ f.2.1, m ∈ rn A f.1) ∧ ∀ m ∈ rn A f.1, m ∈ f.2.1 ∨ been.getD m.toNat 0 = 1
  don : ∀ i (hi : i < out.length), ∀ m ∈ rn A out[i], m ∈ out.take i ∨ Rch A m.toNat out[i].toNat
theorem nodup_len {n : Nat} {l : List Int} (h : l.Nodup) (hr : ∀ w ∈ l, 0 ≤ w ∧ w < (n : Int)) : l.length ≤ n := by
  have := sub_len (a := l) (b := ofN (List.range n)) h (fun x hx => by
    have := hr x hx
    exact List.mem_map.2 ⟨x.toNat, List.mem_range.2 (by omega), by omega⟩)
  simpa [ofN] using this
section
variable {n : Nat} {A : List Arc} (hA : InR n A)
include hA
theorem DfsI.pop {been out : List Int} {cs : List Fr} {t : Int} {next : List Int} (h : DfsI n A been out (cs ++ [(t, next, ())])) (hs : scan been next = none) : DfsI n A been (out ++ [t]) cs := by
  have e : (cs ++ [((t, next, ()) : Fr)]).map (fun f : Fr => f.1) = cs.map (fun f : Fr => f.1) ++ [t] := by simp
  have hfr := h.fr (t, next, ()) (by simp)
  have hst := List.pairwise_append.1 h.stk
  refine ⟨h.blen, h.bits, fun w h0 h1 => ?_, ?_, fun w hw => ?_, hst.1, fun f hf => h.fr f (by simp [hf]), fun i hi m hm => ?_⟩
  · have := h.mark w h0 h1
    rw [e] at this
    rw [this]
    simp only [List.mem_append, List.mem_singleton]
    constructor
    · rintro (h | h | h)
      · exact .inl (.inl h)
      · exact .inr h
      · exact .inl (.inr h)
    · rintro ((h | h) | h)
      · exact .inl h
      · exact .inr (.inr h)
      · exact .inr (.inl h)
  · have := h.nd
    rw [e] at this
    refine (List.Perm.nodup_iff ?_).1 this
    rw [List.append_assoc]
    exact List.Perm.append_left _ List.perm_append_comm
  · refine h.rng w ?_
    rw [e]
    simp only [List.mem_append, List.mem_singleton] at hw ⊢
    rcases hw with (hw | hw) | hw
    · exact .inl hw
    · exact .inr (.inr hw)
    · exact .inr (.inl hw)
  · rw [List.length_append, List.length_singleton] at hi
    by_cases hlt : i < out.length
    · rw [List.getElem_append_left hlt] at hm ⊢
      rcases h.don i hlt m hm with h | h
      · left
        rw [List.take_append_of_le_length (by omega)]
        exact h
      · exact .inr h
    · have hi' : i = out.length := by omega
      subst hi'
      have et : (out ++ [t])[out.length]'(by simp) = t := by simp
      rw [et] at hm ⊢
      have hr := rn_rng hA hm
      have hb : been.getD m.toNat 0 = 1 := by
        rcases hfr.2 m hm with h1 | h1
        · have := scan_none hs m h1
          rcases h.bits m.toNat (by omega) with h2 | h2
          · exact absurd h2 this
          · exact h2
        · exact h1
      have := (h.mark m hr.1 hr.2).1 hb
      rw [e] at this
      rcases this with h1 | h1
      · left
        simpa using h1
      · right
        rcases List.mem_append.1 h1 with h1 | h1
        · obtain ⟨f, hf, rfl⟩ := List.mem_map.1 h1
          exact hst.2.2 f hf (t, next, ()) (by simp)
        · simp only [List.mem_singleton] at h1
          subst h1
          exact Rch.refl
theorem DfsI.push {been out : List Int} {cs : List Fr} {t : Int} {next : List Int} {m : Int} {r : List Int} (h : DfsI n A been out (cs ++ [(t, next, ())])) (hs : scan been next = some (m, r)) :
    DfsI n A (been.set m.toNat 1) out (cs ++ [(t, r, ())] ++ [(m, rn A m, ())]) ∧ zs (been.set m.toNat 1) + 1 = zs been := by
  obtain ⟨s1, s2, s3, s4⟩ := scan_some hs
  have hfr := h.fr (t, next, ()) (by simp)
  have hmt := hfr.1 m s2
  have hr := rn_rng hA hmt
  have hst := List.pairwise_append.1 h.stk
  have hk : m.toNat < been.length := by rw [h.blen]; omega
  have hz : been[m.toNat] = 0 := by
    rw [List.getD_eq_getElem?_getD, List.getElem?_eq_getElem hk] at s1
    exact s1
  have e : (cs ++ [((t, next, ()) : Fr)]).map (fun f : Fr => f.1) = cs.map (fun f : Fr => f.1) ++ [t] := by simp
  have e2 : (cs ++ [((t, r, ()) : Fr)] ++ [((m, rn A m, ()) : Fr)]).map (fun f : Fr => f.1) = cs.map (fun f : Fr => f.1) ++ [t] ++ [m] := by simp
  have hnot : ¬ (m ∈ out ∨ m ∈ cs.map (fun f : Fr => f.1) ++ [t]) := fun hc => by
    have := (h.mark m hr.1 hr.2).2 (by rw [e]; exact hc)
    rw [s1] at this
    cases this
  have mono : ∀ w : Int, been.getD w.toNat 0 = 1 → (been.set m.toNat 1).getD w.toNat 0 = 1 := fun w hw => by
    rw [getD_set hk]
    split
    · rfl
    · exact hw
  refine ⟨⟨by rw [List.length_set]; exact h.blen, fun k hk' => ?_, fun w h0 h1 => ?_, ?_, fun w hw => ?_, ?_, fun f hf => ?_, h.don⟩, zs_set hk hz⟩
  · rw [getD_set hk]
    split
    · exact .inr rfl
    · exact h.bits k hk'
  · rw [e2, getD_set hk]
    have := h.mark w h0 h1
    rw [e] at this
    by_cases hw : w = m
    · subst hw
      rw [if_pos rfl]
      simp
    · rw [if_neg (by omega), this]
      simp only [List.mem_append, List.mem_singleton]
      constructor
      · rintro (h | h | h)
        · exact .inl h
        · exact .inr (.inl (.inl h))
        · exact .inr (.inl (.inr h))
      · rintro (h | (h | h) | h)
        · exact .inl h
        · exact .inr (.inl h)
        · exact .inr (.inr h)
        · exact absurd h hw
  · have := h.nd
    rw [e] at this
    rw [e2, ← List.append_assoc]
    rw [List.nodup_append]
    refine ⟨this, by simp, fun a ha b hb hab => ?_⟩
    simp only [List.mem_singleton] at hb
    subst hb
    subst hab
    exact hnot (List.mem_append.1 ha)
  · rw [e2] at hw
    have hrng := h.rng
    rw [e] at hrng
    rw [← List.append_assoc] at hw
    rcases List.mem_append.1 hw with hw | hw
    · exact hrng w hw
    · simp only [List.mem_singleton] at hw
      subst hw
      exact hr
  · rw [List.pairwise_append]
    refine ⟨?_, by simp, fun f hf g hg => ?_⟩
    · rw [List.pairwise_append]
      refine ⟨hst.1, by simp, fun f hf g hg => ?_⟩
      simp only [List.mem_singleton] at hg
      subst hg
      exact hst.2.2 f hf (t, next, ()) (by simp)
    · simp only [List.mem_singleton] at hg
      subst hg
      rcases List.mem_append.1 hf with hf | hf
      · exact rch_arc (hst.2.2 f hf (t, next, ()) (by simp)) hmt
      · simp only [List.mem_singleton] at hf
        subst hf
        exact rch_arc Rch.refl hmt
  · rcases List.mem_append.1 hf with hf | hf
    · rcases List.mem_append.1 hf with hf | hf
      · have := h.fr f (by simp [hf])
        refine ⟨this.1, fun x hx => ?_⟩
        rcases this.2 x hx with h1 | h1
        · exact .inl h1
        · exact .inr (mono x h1)
      · simp only [List.mem_singleton] at hf
        subst hf
        refine ⟨fun x hx => hfr.1 x (s3 x hx), fun x hx => ?_⟩
        have hxr := rn_rng hA hx
        rcases hfr.2 x hx with h1 | h1
        · rcases s4 x h1 with h2 | h2 | h2
          · exact .inl h2
          · subst h2
            right
            rw [getD_set hk, if_pos rfl]
          · right
            rcases h.bits x.toNat (by omega) with h3 | h3
            · exact absurd h3 h2
            · exact mono x h3
        · exact .inr (mono x h1)
    · simp only [List.mem_singleton] at hf
      subst hf
      exact ⟨fun x hx => hx, fun x hx => .inl hx⟩
theorem ord_run (hn : n ≤ 1000) (hm : A.length ≤ 1000000) : ∀ (d : Nat) (been out : List Int) (cs : List Fr), 2 * zs been + cs.length ≤ d → DfsI n A been out cs →
    ∃ been' out', lim flow_Flow_Order_l20_step (some (gr n A), been, out, cs, ()) = some (.inl (out', been', ([] : List Fr), ())) ∧ DfsI n A been' out' [] ∧ ∀ k, been.getD k 0 = 1 → been'.getD k 0 = 1 := by
  intro d
  induction d with
  | zero =>
    intro been out cs hd h
    have : cs = [] := List.length_eq_zero_iff.1 (by omega)
    subst this
    exact ⟨been, out, ord_end hA hn hm, h, fun k hk => hk⟩
  | succ d ih =>
    intro been out cs hd h
    rcases List.eq_nil_or_concat cs with rfl | ⟨cs', f, rfl⟩
    · exact ⟨been, out, ord_end hA hn hm, h, fun k hk => hk⟩
    · rw [List.concat_eq_append] at h hd ⊢
      obtain ⟨t, next, ⟨⟩⟩ := f
      have hlen := nodup_len h.nd h.rng
      simp only [List.length_append, List.length_map, List.length_singleton] at hlen hd
      have hstep := ord_step hA hn hm h.blen (cs := cs') (out := out) (by omega) (by omega) t next (fun m hm' => rn_rng hA ((h.fr (t, next, ()) (by simp)).1 m hm'))
      rw [hstep]
      cases hs : scan been next with
      | none =>
        simp only
        obtain ⟨b', o', h1, h2, h3⟩ := ih been (out ++ [t]) cs' (by omega) (h.pop hA hs)
        exact ⟨b', o', h1, h2, h3⟩
      | some p =>
        obtain ⟨m, r⟩ := p
        simp only
        obtain ⟨hp, hz⟩ := h.push hA hs
        obtain ⟨b', o', h1, h2, h3⟩ := ih _ out _ (by simp; omega) hp
        refine ⟨b', o', h1, h2, fun k hk => h3 k ?_⟩
        have hk' : m.toNat < been.length := by
          have := rn_rng hA ((h.fr (t, next, ()) (by simp)).1 m (scan_some hs).2.1)
          rw [h.blen]
          omega
        rw [getD_set hk']
        split
        · rfl
        · exact hk
/-- What the order is. -/
structure OrdOK (n : Nat) (A : List Arc) (out : List Int) : Prop where
  nd : out.Nodup
  len : out.length = n
  mem : ∀ w, w ∈ out ↔ 0 ≤ w ∧ w < (n : Int)
  don : ∀ i (hi : i < out.length), ∀ m ∈ rn A out[i], m ∈ out.take i ∨ Rch A m.toNat out[i].toNat
theorem ord_outer (hn : n ≤ 1000) (hm : A.length ≤ 1000000) : ∀ (d k : Nat) (been out : List Int), k + d = n → DfsI n A been out [] → (∀ j, j < k → been.getD j 0 = 1) →
    ∃ been' out', lim flow_Flow_Order_l10_step (some (gr n A), been, out, (n : Int), (k : Int), ()) = some (.inl (out', been', ())) ∧ OrdOK n A out' := by
  intro d
  induction d with
  | zero =>
    intro k been out hk h hj
    have : k = n := by omega
    subst this
    have hmem : ∀ w, w ∈ out ↔ 0 ≤ w ∧ w < (k : Int) := fun w => by
      constructor
      · intro hw
        exact h.rng w (by simp [hw])
      · rintro ⟨h0, h1⟩
        have := (h.mark w h0 h1).1 (hj w.toNat (by omega))
        simpa using this
    have hnd : out.Nodup := by simpa using h.nd
    refine ⟨been, out, lim_end fun g => ?_, hnd, ?_, hmem, h.don⟩
    · unfold flow_Flow_Order_l10_step
      simp only [dge (Nat.lt_irrefl _), cond_false]
    · have h1 := nodup_len hnd (fun w hw => (hmem w).1 hw)
      have h2 := sub_len (a := ofN (List.range k)) (b := out) (by
        unfold ofN
        rw [List.nodup_iff_pairwise_ne, List.pairwise_map]
        refine List.Pairwise.imp ?_ List.pairwise_lt_range
        intro a b hab
        omega) (fun x hx => by
        obtain ⟨i, hi, rfl⟩ := List.mem_map.1 hx
        have := List.mem_range.1 hi
        exact (hmem _).2 (by omega))
      simp [ofN] at h2
      omega
  | succ d ih =>
    intro k been out hk h hj
    have hkn : k < n := by omega
    have i1 : inB (k : Int) been.length = true := inB_nat (by rw [h.blen]; exact hkn)
    have hdef : Ty.dflt (.int .i64) = (0 : Int) := rfl
    rcases h.bits k hkn with hb | hb
    · have hset : DfsI n A (been.set k 1) out [((k : Int), rn A (k : Int), ())] := by
        have hkl : k < been.length := by rw [h.blen]; exact hkn
        have hno : (k : Int) ∉ out := fun hc => by
          have := (h.mark (k : Int) (by omega) (by omega)).2 (.inl hc)
          rw [Int.toNat_natCast, hb] at this
          cases this
        refine ⟨by rw [List.length_set]; exact h.blen, fun j hj' => ?_, fun w h0 h1 => ?_, ?_, fun w hw => ?_, by simp, fun f hf => ?_, h.don⟩
        · rw [getD_set hkl]
          split
          · exact .inr rfl
          · exact h.bits j hj'
        · have := h.mark w h0 h1
          simp only [List.map_nil, List.not_mem_nil, or_false] at this
          rw [getD_set hkl]
          by_cases hw : w = (k : Int)
          · subst hw
            rw [if_pos (by omega)]
            simp
          · rw [if_neg (by omega), this]
            simp [hw]
        · have := h.nd
          simp only [List.map_nil, List.append_nil] at this
          simp only [List.map_cons, List.map_nil]
          rw [List.nodup_append]
          refine ⟨this, by simp, fun a ha b hb' hab => ?_⟩
          simp only [List.mem_singleton] at hb'
          subst hb'
          subst hab
          exact hno ha
        · simp only [List.map_cons, List.map_nil, List.mem_append, List.mem_singleton] at hw
          rcases hw with hw | rfl
          · exact h.rng w (by simp [hw])
          · omega
        · simp only [List.mem_singleton] at hf
          subst hf
          exact ⟨fun x hx => hx, fun x hx => .inl hx⟩
      obtain ⟨b', o', h1, h2, h3⟩ := ord_run hA hn hm _ _ _ _ (Nat.le_refl _) hset
      have hkl : k < been.length := by rw [h.blen]; exact hkn
      obtain ⟨b2, o2, k1, k2⟩ := ih (k + 1) b' o' (by omega) h2 (fun j hj' => h3 j (by
        rw [getD_set hkl]
        split
        · rfl
        · exact hj j (by omega)))
      refine ⟨b2, o2, ?_, k2⟩
      rw [← k1]
      refine lim_step fun g => ?_
      unfold flow_Flow_Order_l10_step
      simp only [dlt hkn, cond_true, i1, ck_true, Int.toNat_natCast, hdef, hb]
      rw [show decide ((0 : Int) > 0) = false from rfl, cond_false, gNext_eq hA hn hm]
      simp only [Option.bind_some]
      rw [h1]
      simp only [Option.bind_some, out1_inl, wrap_succ (show k < 9223372036854775807 by omega)]
    · obtain ⟨b2, o2, k1, k2⟩ := ih (k + 1) been out (by omega) h (fun j hj' => by
        by_cases e : j = k
        · subst e; exact hb
        · exact hj j (by omega))
      refine ⟨b2, o2, ?_, k2⟩
      rw [← k1]
      refine lim_step fun g => ?_
      unfold flow_Flow_Order_l10_step
      simp only [dlt hkn, cond_true, i1, ck_true, Int.toNat_natCast, hdef, hb]
      rw [show decide ((1 : Int) > 0) = true from rfl, cond_true, wrap_succ (show k < 9223372036854775807 by omega)]
theorem order_ok {p : Option V_point_Points} (hn : n ≤ 1000) (hm : A.length ≤ 1000000) : ∃ out, flow_Flow_Order (some (p, some (gr n A), ()), ()) = some (out, ()) ∧ OrdOK n A out := by
  have hz : ∀ k, (List.replicate n (0 : Int)).getD k 0 = 0 := fun k => by
    rw [List.getD_eq_getElem?_getD, List.getElem?_replicate]
    split <;> rfl
  have h0 : DfsI n A (List.replicate n (0 : Int)) [] [] := ⟨by simp, fun k _ => .inl (hz k), fun w _ _ => by rw [hz]; simp, by simp, by simp, by simp, by simp, fun i hi => by simp at hi⟩
  obtain ⟨b', o', h1, h2⟩ := ord_outer hA hn hm n 0 _ _ (by omega) h0 (fun j hj => by omega)
  refine ⟨o', ?_, h2⟩
  unfold flow_Flow_Order
  simp only [fgr_eq, Option.bind_some, Nodes_some]
  have e : (gr n A).1 = (n : Int) := rfl
  rw [e, show (decide ((0 : Int) ≤ (n : Int)) && decide ((n : Int) ≤ (n : Int)) && decide ((n : Int) * ((10 : Nat) : Int) ≤ 35184372088832)) = true from by simp; omega, ck_true, Int.toNat_natCast]
  rw [show lim flow_Flow_Order_l10_step (some (gr n A), List.replicate n (0 : Int), ([] : List Int), (n : Int), (0 : Int), ()) = _ from h1]
  rfl
end
end Go.XD


/- Plain law of FlowOrders: the reference's order is the program's. -/
namespace Go.XD

/-- Has one met these? -/
structure MetOK (n : Nat) (been met : List Int) : Prop where
  nd : met.Nodup
  rng : ∀ w ∈ met, 0 ≤ w ∧ w < (n : Int)
  mem : ∀ w : Int, 0 ≤ w → w < n → (w ∈ met ↔ been.getD w.toNat 0 = 1)
abbrev Thr := (List Arc × List Int × List Int × Int × Unit) → Option ((List Int × List Int × Unit) ⊕ Empty)
/-- Membership, by a loop. -/
theorem been_loop (r : Thr) (met L : List Int) {i : Nat} (hi : i < L.length) (hm : met.length ≤ 1000) : ∀ (d j : Nat) (c : Bool), j + d = met.length →
    lim (ref23_through_p0_l16_step r) (met, L, (i : Int), c, (j : Int), ()) = some (.inl (c || (met.drop j).contains L[i], met, ())) := by
  intro d
  induction d with
  | zero =>
    intro j c hj
    have : j = met.length := by omega
    subst this
    refine lim_end fun g => ?_
    unfold ref23_through_p0_l16_step
    simp only [dge (Nat.lt_irrefl _), cond_false, List.drop_length, List.contains_nil, Bool.or_false]
  | succ d ih =>
    intro j c hj
    have hjl : j < met.length := by omega
    have h1 := ih (j + 1) (c || (met[j] == L[i])) (by omega)
    rw [List.drop_eq_getElem_cons hjl, List.contains_cons]
    have sy : (L[i] == met[j]) = (met[j] == L[i]) := by rw [Bool.eq_iff_iff, beq_iff_eq, beq_iff_eq]; exact eq_comm
    have hg : met.getD j (Ty.dflt (.int .i64)) = met[j] := by simp [List.getD_eq_getElem?_getD, hjl]
    rw [sy, ← Bool.or_assoc, ← h1]
    refine lim_step fun g => ?_
    unfold ref23_through_p0_l16_step
    simp only [dlt hjl, cond_true, inB_nat hjl, inB_nat hi, ck_true, Bool.true_or, rdL_nat (.int .i64) L hi, Int.toNat_natCast, hg, cond_or, wrap_succ (show j < 9223372036854775807 by omega)]
theorem thr_step (r : Thr) (A : List Arc) (out met : List Int) (m : Int) : ref23_through_p0_step r (A, out, met, m, ()) = ck (roomB (met ++ [m]).length 10) (Option.bind (ref10_Next (A, m, ())) fun y1 => Option.bind (lim (ref23_through_p0_l8_step r) (A, out, met ++ [m], y1.1, (0 : Int), ())) fun y8 => out1 y8 fun z9 => ck (roomB (z9.1 ++ [m]).length 10) (some (.inl (z9.1 ++ [m], z9.2)))) := rfl
section
variable {n : Nat} {A : List Arc} (hA : InR n A)
include hA
theorem DfsI.skip {been out : List Int} {cs : List Fr} {t m : Int} {r : List Int} (h : DfsI n A been out (cs ++ [(t, m :: r, ())])) (hb : been.getD m.toNat 0 = 1) : DfsI n A been out (cs ++ [(t, r, ())]) := by
  have e : ∀ l : List Int, (cs ++ [((t, l, ()) : Fr)]).map (fun f : Fr => f.1) = cs.map (fun f : Fr => f.1) ++ [t] := fun l => by simp
  have hfr := h.fr (t, m :: r, ()) (by simp)
  have hst := List.pairwise_append.1 h.stk
  refine ⟨h.blen, h.bits, fun w h0 h1 => by have := h.mark w h0 h1; rw [e] at this ⊢; exact this, by have := h.nd; rw [e] at this ⊢; exact this, by have := h.rng; rw [e] at this ⊢; exact this, ?_, fun f hf => ?_, h.don⟩
  · rw [List.pairwise_append]
    refine ⟨hst.1, by simp, fun f hf g hg => ?_⟩
    simp only [List.mem_singleton] at hg
    subst hg
    exact hst.2.2 f hf (t, m :: r, ()) (by simp)
  · rcases List.mem_append.1 hf with hf | hf
    · exact h.fr f (by simp [hf])
    · simp only [List.mem_singleton] at hf
      subst hf
      refine ⟨fun x hx => hfr.1 x (List.mem_cons_of_mem _ hx), fun x hx => ?_⟩
      rcases hfr.2 x hx with h1 | h1
      · rcases List.mem_cons.1 h1 with rfl | h1
        · exact .inr hb
        · exact .inl h1
      · exact .inr h1
theorem thr_run (hn : n ≤ 1000) (hm : A.length ≤ 1000000) : ∀ (d : Nat) (been out met : List Int) (cs : List Fr) (t : Int) (L : List Int) (i : Nat), (A.length + 1) * zs been + (L.length - i) ≤ d → i ≤ L.length → L.length ≤ 1000000 →
    DfsI n A been out (cs ++ [(t, L.drop i, ())]) → MetOK n been met → ∃ been' out' met' M,
      lim flow_Flow_Order_l20_step (some (gr n A), been, out, cs ++ [(t, L.drop i, ())], ()) = lim flow_Flow_Order_l20_step (some (gr n A), been', out' ++ [t], cs, ()) ∧
      (∀ k, M ≤ k → lim (ref23_through_p0_l8_step (iter ref23_through_p0_step k)) (A, out, met, L, (i : Int), ()) = some (.inl (out', met', ()))) ∧
      DfsI n A been' (out' ++ [t]) cs ∧ MetOK n been' met' ∧ zs been' ≤ zs been ∧ (∀ k, been.getD k 0 = 1 → been'.getD k 0 = 1) := by
  intro d
  induction d with
  | zero =>
    intro been out met cs t L i hd hi hL h hM
    have hiL : i = L.length := by omega
    subst hiL
    have e : L.drop L.length = [] := List.drop_length
    rw [e] at h ⊢
    have hlen := nodup_len h.nd h.rng
    simp only [List.length_append, List.length_map, List.length_singleton] at hlen
    refine ⟨been, out, met, 0, ?_, fun k _ => lim_end fun g => ?_, h.pop hA rfl, hM, Nat.le_refl _, fun k hk => hk⟩
    · exact ord_step hA hn hm h.blen (by omega) (by omega) t [] (by simp)
    · unfold ref23_through_p0_l8_step
      simp only [dge (Nat.lt_irrefl _), cond_false]
  | succ d ih =>
    intro been out met cs t L i hd hi hL h hM
    have hlen := nodup_len h.nd h.rng
    simp only [List.length_append, List.length_map, List.length_singleton] at hlen
    have hml := nodup_len hM.nd hM.rng
    by_cases hiL : i = L.length
    · subst hiL
      have e : L.drop L.length = [] := List.drop_length
      rw [e] at h ⊢
      refine ⟨been, out, met, 0, ?_, fun k _ => lim_end fun g => ?_, h.pop hA rfl, hM, Nat.le_refl _, fun k hk => hk⟩
      · exact ord_step hA hn hm h.blen (by omega) (by omega) t [] (by simp)
      · unfold ref23_through_p0_l8_step
        simp only [dge (Nat.lt_irrefl _), cond_false]
    · have hlt : i < L.length := by omega
      have hdr : L.drop i = L[i] :: L.drop (i + 1) := List.drop_eq_getElem_cons hlt
      rw [hdr] at h ⊢
      have hfr := h.fr (t, L[i] :: L.drop (i + 1), ()) (by simp)
      have hmt := hfr.1 L[i] List.mem_cons_self
      have hr := rn_rng hA hmt
      have hin : ∀ m ∈ L[i] :: L.drop (i + 1), 0 ≤ m ∧ m < (n : Int) := fun m hm' => rn_rng hA (hfr.1 m hm')
      have hos := ord_step hA hn hm h.blen (cs := cs) (out := out) (by omega) (by omega) t _ hin
      have hbl : ∀ r, lim (ref23_through_p0_l16_step r) (met, L, (i : Int), false, (0 : Int), ()) = some (.inl (met.contains L[i], met, ())) := fun r => by
        have := been_loop r met L hlt (by omega) met.length 0 false (by omega)
        rw [List.drop_zero, Bool.false_or] at this
        exact this
      rcases h.bits L[i].toNat (by omega) with hb | hb
      · -- not met
        have hnm : met.contains L[i] = false := by
          cases hc : met.contains L[i] with
          | false => rfl
          | true =>
            have := (hM.mem L[i] hr.1 hr.2).1 (by simpa using hc)
            rw [hb] at this
            cases this
        have hs : scan been (L[i] :: L.drop (i + 1)) = some (L[i], L.drop (i + 1)) := by simp only [scan, hb, beq_self_eq_true, cond_true]
        obtain ⟨hp, hz⟩ := h.push hA hs
        have hk : L[i].toNat < been.length := by rw [h.blen]; omega
        have hM1 : MetOK n (been.set L[i].toNat 1) (met ++ [L[i]]) := by
          refine ⟨?_, fun w hw => ?_, fun w h0 h1 => ?_⟩
          · rw [List.nodup_append]
            refine ⟨hM.nd, by simp, fun a ha b hb' hab => ?_⟩
            simp only [List.mem_singleton] at hb'
            subst hb'
            subst hab
            rw [List.contains_iff_mem.2 ha] at hnm
            cases hnm
          · rcases List.mem_append.1 hw with hw | hw
            · exact hM.rng w hw
            · simp only [List.mem_singleton] at hw
              subst hw
              exact hr
          · rw [getD_set hk, List.mem_append, List.mem_singleton, hM.mem w h0 h1]
            by_cases hw : w = L[i]
            · subst hw
              simp
            · rw [if_neg (by omega)]
              simp [hw]
        have hrl := rn_len A L[i]
        have hmul : (A.length + 1) * zs been = (A.length + 1) * zs (been.set L[i].toNat 1) + (A.length + 1) := by rw [← hz, Nat.mul_succ]
        obtain ⟨b1, o1, m1, M1, q1, q2, q3, q4, q5, q6⟩ := ih (been.set L[i].toNat 1) out (met ++ [L[i]]) (cs ++ [(t, L.drop (i + 1), ())]) L[i] (rn A L[i]) 0 (by omega) (by omega) (by omega) (by simpa using hp) hM1
        have hmul2 : (A.length + 1) * zs b1 ≤ (A.length + 1) * zs (been.set L[i].toNat 1) := Nat.mul_le_mul_left _ q5
        obtain ⟨b2, o2, m2, M2, r1, r2, r3, r4, r5, r6⟩ := ih b1 (o1 ++ [L[i]]) m1 cs t L (i + 1) (by omega) (by omega) hL q3 q4
        refine ⟨b2, o2, m2, max (M1 + 1) M2, ?_, fun k hk' => ?_, r3, r4, by omega, fun k hk' => r6 k (q6 k (by
          rw [getD_set hk]
          split
          · rfl
          · exact hk'))⟩
        · rw [hos, hs]
          simp only
          rw [List.drop_zero] at q1
          rw [q1, r1]
        · have hlen1 := nodup_len q3.nd q3.rng
          simp only [List.length_append, List.length_map, List.length_singleton] at hlen1
          rw [← r2 k (by omega)]
          refine lim_step fun g => ?_
          obtain ⟨k', rfl⟩ : ∃ k', k = k' + 1 := ⟨k - 1, by omega⟩
          have hcall : iter ref23_through_p0_step (k' + 1) (A, out, met, L[i], ()) = some (.inl (o1 ++ [L[i]], m1, ())) := by
            simp only [iter]
            rw [thr_step, roomB_ok (by simp; omega), ck_true, rNext_eq A L[i] (by omega)]
            simp only [Option.bind_some]
            have := q2 k' (by omega)
            rw [show lim (ref23_through_p0_l8_step (iter ref23_through_p0_step k')) (A, out, met ++ [L[i]], rn A L[i], (0 : Int), ()) = _ from this]
            simp only [Option.bind_some, out1_inl]
            rw [roomB_ok (by simp; omega)]
            rfl
          unfold ref23_through_p0_l8_step
          simp only [dlt hlt, cond_true]
          rw [hbl]
          simp only [Option.bind_some, out1_inl, hnm]
          unfold ref23_through_p0_j97_v
          simp only [Bool.not_false, cond_true, inB_nat hlt, ck_true, rdL_nat (.int .i64) L hlt]
          rw [hcall]
          simp only [Option.bind_some, out1_inl, wrap_succ (show i < 9223372036854775807 by omega)]
      · -- met
        have hnm : met.contains L[i] = true := by
          have := (hM.mem L[i] hr.1 hr.2).2 hb
          simpa using this
        have hs : scan been (L[i] :: L.drop (i + 1)) = scan been (L.drop (i + 1)) := by
          simp only [scan, hb]
          rfl
        have hsk := h.skip hA hb
        have hos2 := ord_step hA hn hm h.blen (cs := cs) (out := out) (by omega) (by omega) t (L.drop (i + 1)) (fun m hm' => hin m (List.mem_cons_of_mem _ hm'))
        obtain ⟨b1, o1, m1, M1, q1, q2, q3, q4, q5, q6⟩ := ih been out met cs t L (i + 1) (by omega) (by omega) hL hsk hM
        refine ⟨b1, o1, m1, M1, ?_, fun k hk' => ?_, q3, q4, q5, q6⟩
        · rw [hos, hs, ← hos2, q1]
        · rw [← q2 k hk']
          refine lim_step fun g => ?_
          unfold ref23_through_p0_l8_step
          simp only [dlt hlt, cond_true]
          rw [hbl]
          simp only [Option.bind_some, out1_inl, hnm]
          unfold ref23_through_p0_j97_v
          simp only [Bool.not_true, cond_false, Option.bind_some, out1_inl, wrap_succ (show i < 9223372036854775807 by omega)]
end
end Go.XD


/- Plain law of FlowOrders. -/
namespace Go.XD

theorem MetOK.set {n : Nat} {been met : List Int} {m : Int} (hM : MetOK n been met) (hk : m.toNat < been.length) (hr : 0 ≤ m ∧ m < (n : Int)) (hb : been.getD m.toNat 0 = 0) : MetOK n (been.set m.toNat 1) (met ++ [m]) := by
  have hno : m ∉ met := fun hc => by
    have := (hM.mem m hr.1 hr.2).1 hc
    rw [hb] at this
    cases this
  refine ⟨?_, fun w hw => ?_, fun w h0 h1 => ?_⟩
  · rw [List.nodup_append]
    refine ⟨hM.nd, by simp, fun a ha b hb' hab => ?_⟩
    simp only [List.mem_singleton] at hb'
    subst hb'
    subst hab
    exact hno ha
  · rcases List.mem_append.1 hw with hw | hw
    · exact hM.rng w hw
    · simp only [List.mem_singleton] at hw
      subst hw
      exact hr
  · rw [getD_set hk, List.mem_append, List.mem_singleton, hM.mem w h0 h1]
    by_cases hw : w = m
    · subst hw
      simp
    · rw [if_neg (by omega)]
      simp [hw]
theorem met_loop (met : List Int) (k : Nat) (hm : met.length ≤ 1000) : ∀ (d j : Nat) (c : Bool), j + d = met.length →
    lim ref23_Order_l14_step (met, (k : Int), c, (j : Int), ()) = some (.inl (c || (met.drop j).contains (k : Int), met, ())) := by
  intro d
  induction d with
  | zero =>
    intro j c hj
    have : j = met.length := by omega
    subst this
    refine lim_end fun g => ?_
    unfold ref23_Order_l14_step
    simp only [dge (Nat.lt_irrefl _), cond_false, List.drop_length, List.contains_nil, Bool.or_false]
  | succ d ih =>
    intro j c hj
    have hjl : j < met.length := by omega
    have h1 := ih (j + 1) (c || (met[j] == (k : Int))) (by omega)
    rw [List.drop_eq_getElem_cons hjl, List.contains_cons]
    have sy : ((k : Int) == met[j]) = (met[j] == (k : Int)) := by rw [Bool.eq_iff_iff, beq_iff_eq, beq_iff_eq]; exact eq_comm
    have hg : met.getD j (Ty.dflt (.int .i64)) = met[j] := by simp [List.getD_eq_getElem?_getD, hjl]
    rw [sy, ← Bool.or_assoc, ← h1]
    refine lim_step fun g => ?_
    unfold ref23_Order_l14_step
    simp only [dlt hjl, cond_true, inB_nat hjl, ck_true, Bool.true_or, Int.toNat_natCast, hg, cond_or, wrap_succ (show j < 9223372036854775807 by omega)]
section
variable {n : Nat} {A : List Arc} (hA : InR n A)
include hA
theorem DfsI.start {been out : List Int} {k : Nat} (h : DfsI n A been out []) (hkn : k < n) (hb : been.getD k 0 = 0) : DfsI n A (been.set k 1) out [((k : Int), rn A (k : Int), ())] := by
  have hkl : k < been.length := by rw [h.blen]; exact hkn
  have hno : (k : Int) ∉ out := fun hc => by
    have := (h.mark (k : Int) (by omega) (by omega)).2 (.inl hc)
    rw [Int.toNat_natCast, hb] at this
    cases this
  refine ⟨by rw [List.length_set]; exact h.blen, fun j hj' => ?_, fun w h0 h1 => ?_, ?_, fun w hw => ?_, by simp, fun f hf => ?_, h.don⟩
  · rw [getD_set hkl]
    split
    · exact .inr rfl
    · exact h.bits j hj'
  · have := h.mark w h0 h1
    simp only [List.map_nil, List.not_mem_nil, or_false] at this
    rw [getD_set hkl]
    by_cases hw : w = (k : Int)
    · subst hw
      rw [if_pos (by omega)]
      simp
    · rw [if_neg (by omega), this]
      simp [hw]
  · have := h.nd
    simp only [List.map_nil, List.append_nil] at this
    simp only [List.map_cons, List.map_nil]
    rw [List.nodup_append]
    refine ⟨this, by simp, fun a ha b hb' hab => ?_⟩
    simp only [List.mem_singleton] at hb'
    subst hb'
    subst hab
    exact hno ha
  · simp only [List.map_cons, List.map_nil, List.mem_append, List.mem_singleton] at hw
    rcases hw with hw | rfl
    · exact h.rng w (by simp [hw])
    · omega
  · simp only [List.mem_singleton] at hf
    subst hf
    exact ⟨fun x hx => hx, fun x hx => .inl hx⟩
theorem ord_both (hn : n ≤ 1000) (hm : A.length ≤ 1000000) : ∀ (d k : Nat) (been out met : List Int), k + d = n → DfsI n A been out [] → MetOK n been met →
    ∃ been' out' met', lim flow_Flow_Order_l10_step (some (gr n A), been, out, (n : Int), (k : Int), ()) = some (.inl (out', been', ())) ∧
      lim ref23_Order_l6_step ((n : Int), A, out, met, (k : Int), ()) = some (.inl (out', met', ())) ∧ DfsI n A been' out' [] := by
  intro d
  induction d with
  | zero =>
    intro k been out met hk h hM
    have : k = n := by omega
    subst this
    refine ⟨been, out, met, lim_end fun g => ?_, lim_end fun g => ?_, h⟩
    · unfold flow_Flow_Order_l10_step
      simp only [dge (Nat.lt_irrefl _), cond_false]
    · unfold ref23_Order_l6_step
      simp only [dge (Nat.lt_irrefl _), cond_false]
  | succ d ih =>
    intro k been out met hk h hM
    have hkn : k < n := by omega
    have hkl : k < been.length := by rw [h.blen]; exact hkn
    have i1 : inB (k : Int) been.length = true := inB_nat hkl
    have hdef : Ty.dflt (.int .i64) = (0 : Int) := rfl
    have hml := nodup_len hM.nd hM.rng
    have hbl : lim ref23_Order_l14_step (met, (k : Int), false, (0 : Int), ()) = some (.inl (met.contains (k : Int), met, ())) := by
      have := met_loop met k (by omega) met.length 0 false (by omega)
      rw [List.drop_zero, Bool.false_or] at this
      exact this
    have hmm := hM.mem (k : Int) (by omega) (by omega)
    rw [Int.toNat_natCast] at hmm
    rcases h.bits k hkn with hb | hb
    · have hnm : met.contains (k : Int) = false := by
        cases hc : met.contains (k : Int) with
        | false => rfl
        | true =>
          have := hmm.1 (by simpa using hc)
          rw [hb] at this
          cases this
      have hset := h.start hA hkn hb
      have hM1 := hM.set (m := (k : Int)) (by simpa using hkl) (by omega) (by simpa using hb)
      rw [Int.toNat_natCast] at hM1
      have hrl := rn_len A (k : Int)
      obtain ⟨b1, o1, m1, M, q1, q2, q3, q4, q5, q6⟩ := thr_run hA hn hm _ (been.set k 1) out (met ++ [(k : Int)]) [] (k : Int) (rn A (k : Int)) 0 (Nat.le_refl _) (by omega) (by omega) (by simpa using hset) hM1
      obtain ⟨b2, o2, m2, r1, r2, r3⟩ := ih (k + 1) b1 (o1 ++ [(k : Int)]) m1 (by omega) q3 q4
      have hlen1 := nodup_len q3.nd q3.rng
      simp only [List.length_append, List.length_map, List.length_singleton, List.length_nil] at hlen1
      have hthr : ref23_through_p0 (A, out, met, (k : Int), ()) = some (.inl (o1 ++ [(k : Int)], m1, ())) := by
        unfold ref23_through_p0
        refine lim_eq (M + 1) fun j hj => ?_
        obtain ⟨j', rfl⟩ : ∃ j', j = j' + 1 := ⟨j - 1, by omega⟩
        simp only [iter]
        rw [thr_step, roomB_ok (by simp; omega), ck_true, rNext_eq A (k : Int) (by omega)]
        simp only [Option.bind_some]
        rw [show lim (ref23_through_p0_l8_step (iter ref23_through_p0_step j')) (A, out, met ++ [(k : Int)], rn A (k : Int), (0 : Int), ()) = _ from q2 j' (by omega)]
        simp only [Option.bind_some, out1_inl]
        rw [roomB_ok (by simp; omega)]
        rfl
      refine ⟨b2, o2, m2, ?_, ?_, r3⟩
      · rw [← r1]
        refine lim_step fun g => ?_
        unfold flow_Flow_Order_l10_step
        simp only [dlt hkn, cond_true, i1, ck_true, Int.toNat_natCast, hdef, hb]
        rw [show decide ((0 : Int) > 0) = false from rfl, cond_false, gNext_eq hA hn hm]
        simp only [Option.bind_some]
        rw [List.drop_zero] at q1
        have q1' : lim flow_Flow_Order_l20_step (some (gr n A), been.set k 1, out, [((k : Int), rn A (k : Int), ())], ()) = some (.inl (o1 ++ [(k : Int)], b1, ([] : List Fr), ())) := by
          refine Eq.trans (show _ = _ from q1) ?_
          exact ord_end hA hn hm
        rw [q1']
        simp only [Option.bind_some, out1_inl, wrap_succ (show k < 9223372036854775807 by omega)]
      · rw [← r2]
        refine lim_step fun g => ?_
        unfold ref23_Order_l6_step
        simp only [dlt hkn, cond_true]
        rw [hbl]
        simp only [Option.bind_some, out1_inl, hnm]
        unfold ref23_Order_j71_v
        simp only [Bool.not_false, cond_true]
        rw [hthr]
        simp only [Option.bind_some, out1_inl, wrap_succ (show k < 9223372036854775807 by omega)]
    · have hnm : met.contains (k : Int) = true := by
        have := hmm.2 hb
        simpa using this
      obtain ⟨b2, o2, m2, r1, r2, r3⟩ := ih (k + 1) been out met (by omega) h hM
      refine ⟨b2, o2, m2, ?_, ?_, r3⟩
      · rw [← r1]
        refine lim_step fun g => ?_
        unfold flow_Flow_Order_l10_step
        simp only [dlt hkn, cond_true, i1, ck_true, Int.toNat_natCast, hdef, hb]
        rw [show decide ((1 : Int) > 0) = true from rfl, cond_true, wrap_succ (show k < 9223372036854775807 by omega)]
      · rw [← r2]
        refine lim_step fun g => ?_
        unfold ref23_Order_l6_step
        simp only [dlt hkn, cond_true]
        rw [hbl]
        simp only [Option.bind_some, out1_inl, hnm]
        unfold ref23_Order_j71_v
        simp only [Bool.not_true, cond_false, Option.bind_some, out1_inl, wrap_succ (show k < 9223372036854775807 by omega)]
theorem order_same {p : Option V_point_Points} (hn : n ≤ 1000) (hm : A.length ≤ 1000000) : ∃ out, flow_Flow_Order (some (p, some (gr n A), ()), ()) = some (out, ()) ∧ ref23_Order ((n : Int), A, ()) = some (out, ()) ∧ out.length ≤ n := by
  have hz : ∀ k, (List.replicate n (0 : Int)).getD k 0 = 0 := fun k => by
    rw [List.getD_eq_getElem?_getD, List.getElem?_replicate]
    split <;> rfl
  have h0 : DfsI n A (List.replicate n (0 : Int)) [] [] := ⟨by simp, fun k _ => .inl (hz k), fun w _ _ => by rw [hz]; simp, by simp, by simp, by simp, by simp, fun i hi => by simp at hi⟩
  have hM : MetOK n (List.replicate n (0 : Int)) [] := ⟨by simp, by simp, fun w _ _ => by rw [hz]; simp⟩
  obtain ⟨b', o', m', h1, h2, h3⟩ := ord_both hA hn hm n 0 _ _ _ (by omega) h0 hM
  have hl := nodup_len h3.nd h3.rng
  simp only [List.length_append, List.length_map, List.length_nil, Nat.add_zero] at hl
  refine ⟨o', ?_, ?_, hl⟩
  · unfold flow_Flow_Order
    simp only [fgr_eq, Option.bind_some, Nodes_some]
    have e : (gr n A).1 = (n : Int) := rfl
    rw [e, show (decide ((0 : Int) ≤ (n : Int)) && decide ((n : Int) ≤ (n : Int)) && decide ((n : Int) * ((10 : Nat) : Int) ≤ 35184372088832)) = true from by simp; omega, ck_true, Int.toNat_natCast]
    rw [show lim flow_Flow_Order_l10_step (some (gr n A), List.replicate n (0 : Int), ([] : List Int), (n : Int), (0 : Int), ()) = _ from h1]
    rfl
  · unfold ref23_Order
    rw [show lim ref23_Order_l6_step ((n : Int), A, ([] : List Int), ([] : List Int), (0 : Int), ()) = _ from h2]
    rfl
end
theorem law23_FlowOrders_true (x : V_api_Body × Unit) (hx : sane (.cons t_api_Body .nil) x) : law23_FlowOrders x = some (true, ()) := by
  obtain ⟨b, ⟨⟩⟩ := x
  have hb : sane t_api_Body b := hx.1
  obtain ⟨c, hc, hsml⟩ := Small_eq b (fun y hy => (hb.2.2.2.2.2.2.1.2 y hy).1.1) (fun s hs => (hb.2.2.2.2.2.1.2 s hs).2.2.1.1)
  unfold law23_FlowOrders
  rw [hc]
  simp only [Option.bind_some]
  cases c with
  | false =>
    simp only [Bool.not_false, cond_true]
    rw [awake23]
    rfl
  | true =>
    have hS := hsml rfl
    have hF := flow_ok hS
    have h32 := hF.ok.ps (blB b).length
    obtain ⟨hA, hm⟩ := arcs_ok hF
    have hL : (aP (blB b) (blB b).length).length = PS (blB b) (blB b).length := aP_len (blB b) (Nat.le_refl _)
    simp only [Bool.not_true, cond_false]
    rw [fNew_eq b hS]
    simp only [Option.bind_some]
    unfold flw
    generalize hAe : arcN (nxP (blB b)) (PS (blB b) (blB b).length) = A at hA hm
    generalize hN : PS (blB b) (blB b).length = N at hA h32 hL
    obtain ⟨out, ho, ho2, hol⟩ := order_same hA (p := some (pts (blB b), ())) (by omega) (by omega)
    rw [ho]
    simp only [Option.bind_some]
    rw [All_eq b hS, rArcs_eq b hS]
    simp only [Option.bind_some]
    rw [hN] at hAe
    rw [hL, hN, hAe, ho2]
    simp only [Option.bind_some]
    rw [SameF_refl (by omega)]
    simp only [Option.bind_some, cond_true]
    rw [awake23]
    rfl
end Go.XD


/- The row: FlowOrders returns true, for every input. -/
namespace Go.Proofs.YtpknfcdpknpgfaaGreat
open Go.XD

theorem flowOrders_own : ownKnob Tryz.prog.godebug = none := by kernel_rfl
theorem flowOrders_lifted (os : Os) (started : os.Started) (H : Type) (enc : TypeId × Value → H) :
    ReturnsInHanded {} Tryz.checked os 4 .any (Rows.flowOrdersSpec.pre6 enc Tryz.prog Tryz.f4 Rows.flowOrdersRow.domain false) (Rows.flowOrdersSpec.post enc Tryz.prog Tryz.f4 false true false false) :=
  law_ok (C := Tryz.checked) started flowOrders_own (by kernel_rfl) Tryz.func4
    (ChangeSpec.witness6 (enc := enc) (C := Tryz.checked) false ⟨#[], #[.agg #[.int .i64 0, .int .i64 0, .slice none 0 0, .slice none 0 0, .slice none 0 0, .slice none 0 0, .slice none 0 0]], []⟩ 8 (by kernel_rfl) (by kernel_rfl) (by kernel_rfl) (by kernel_rfl))
    rfl (fun ds h => by
      match ds, h with
      | [_], _ => rfl) rfl (rt := 4) (by kernel_rfl) (by kernel_rfl) (ctr_true law23_FlowOrders_ok law23_FlowOrders_true) (fun _ => rfl) (by kernel_rfl) (by kernel_rfl)
theorem flowOrders_holds : Rows.FlowOrdersSaid :=
  OpenClaim.holds_of_wide 4 Tryz.f4 rfl rfl rfl rfl rfl rfl rfl ⟨rfl, rfl, rfl, rfl, rfl⟩ rfl rfl rfl rfl rfl (by kernel_rfl) Tryz.func4 (by kernel_rfl)
    (of_decide_eq_true (by kernel_rfl)) (by unfold Func.isWrapper; first | (rw [if_pos (by decide +kernel)]; kernel_rfl) | (rw [if_neg (by decide +kernel)]; exact ⟨rfl, rfl⟩))
    (fun os started H enc _ => flowOrders_lifted os started H enc)
#print axioms flowOrders_holds
end Go.Proofs.YtpknfcdpknpgfaaGreat


