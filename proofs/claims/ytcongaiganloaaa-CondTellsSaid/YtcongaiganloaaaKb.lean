/- The soundness of further operations. -/
import Derived.Laws.Slices
import Derived.Laws.MakeOwn
import Derived.Laws.StructEq
import Derived.Test.YtcongaiganloaaaKa
set_option linter.unusedVariables false
set_option linter.unusedSimpArgs false
set_option linter.unusedSectionVars false
set_option linter.unnecessarySimpa false
set_option linter.deprecated false
set_option maxRecDepth 100000
/- Structs out of parts. -/
namespace Go.XD

section
variable {P : Program} {F : Fm} {B : Nat → Prop} {S : St} {γ : Gam} {W : World} {fid : Nat}

theorem mapM_some {α β : Type} {f : α → Option β} : ∀ {l : List α}, (∀ a ∈ l, (f a).isSome = true) → ∃ r, l.mapM f = some r
  | [], _ => ⟨[], rfl⟩
  | a :: l, h => by
    obtain ⟨b, hb⟩ := Option.isSome_iff_exists.1 (h a List.mem_cons_self)
    obtain ⟨r, hr⟩ := mapM_some (l := l) (fun x hx => h x (List.mem_cons_of_mem _ hx))
    exact ⟨b :: r, by simp [List.mapM_cons, hb, hr]⟩
theorem mapM_get {α β : Type} {f : α → Option β} : ∀ {l : List α} {r : List β}, l.mapM f = some r → ∀ (i : Nat) (a : α), l[i]? = some a → ∃ b, f a = some b ∧ r[i]? = some b
  | [], r, h, i, a, hi => by simp at hi
  | x :: l, r, h, i, a, hi => by
    simp only [List.mapM_cons, Option.bind_eq_bind, Option.pure_def, Option.bind_eq_some_iff, Option.some.injEq] at h
    obtain ⟨b, hb, q, hq, rfl⟩ := h
    cases i with
    | zero => simp only [List.getElem?_cons_zero, Option.some.injEq] at hi; subst hi; exact ⟨b, hb, rfl⟩
    | succ i => simp only [List.getElem?_cons_succ] at hi ⊢; exact mapM_get hq i a hi

theorem fold_put (off : Nat) (vs : List Value) (cells : Array Value) (h : off + vs.length ≤ cells.size) :
    ((vs.zipIdx 0).foldl (fun cs (x : Value × Nat) => cs.setIfInBounds (off + x.2) x.1) cells).toList = cells.toList.take off ++ vs ++ cells.toList.drop (off + vs.length) := by
  obtain ⟨h1, h2⟩ := Great.foldl_set off vs 0 cells
  apply List.ext_getElem?
  intro k
  rw [take_drop_get _ _ _ _ (by simpa using h)]
  have := h2 k
  rw [← Array.getElem?_toList] at this
  rw [this]
  simp only [Nat.add_zero, Array.getElem?_toList]
  by_cases hk : off ≤ k ∧ k < off + vs.length
  · rw [if_pos ⟨hk.1, hk.2, by omega⟩, if_pos hk]
  · rw [if_neg (by omega), if_neg hk]

theorem fillD_rep {s : TypeId} {places : List (Nat × Nat)} (hpl : ∀ f off ft i, fieldOf P s f = some (off, ft) → P.info? ft = some i → places.toArray[f]? = some (off, i.size)) :
    ∀ {ps : List (Nat × D)} {vs : List (Nat × Value)} {ds ds' : List D} {cells : Array Value}, fillD P s ds ps = some ds' → RepP F S γ W B ps vs → RepDs W.cell? (Frz F S γ W) S.get γ ds cells.toList → bnds B ds →
      ∃ cells', Instr.fill (places.toArray[·]?) cells vs = some cells' ∧ RepDs W.cell? (Frz F S γ W) S.get γ ds' cells'.toList ∧ bnds B ds'
  | [], vs, ds, ds', cells, h, r, q, hb => by
    simp only [fillD, Option.some.injEq] at h
    simp only [RepP] at r
    subst h; subst r
    exact ⟨cells, rfl, q, hb⟩
  | (f, d) :: ps, vs, ds, ds', cells, h, r, q, hb => by
    simp only [fillD] at h
    simp only [RepP] at r
    obtain ⟨v, us, rfl, r1, r2, r3⟩ := r
    cases h1 : fieldOf P s f with
    | none => rw [h1] at h; simp at h
    | some p =>
      obtain ⟨off, ft⟩ := p
      rw [h1] at h
      simp only at h
      cases h2 : P.info? ft with
      | none => rw [h2] at h; simp at h
      | some inf =>
        cases h3 : cellsD d with
        | none => rw [h2, h3] at h; simp at h
        | some cs =>
          rw [h2, h3] at h
          simp only at h
          cases h4 : (Nat.beq inf.size cs.length && cs.all D.leaf) with
          | false => rw [h4] at h; simp at h
          | true =>
            cases h5 : Nat.ble (off + cs.length) ds.length with
            | false => rw [h4, h5] at h; simp at h
            | true =>
              rw [h4, h5] at h
              simp only at h
              rw [Bool.and_eq_true] at h4
              obtain ⟨ws, e1, e2⟩ := cellsD_rep h3 r1 h4.2
              have hl := e2.length
              have e4 := Nat.eq_of_beq_eq_true h4.1
              have e5 := Nat.le_of_ble_eq_true h5
              have hql := q.length
              simp only [Array.length_toList] at hql
              have hput := fold_put off ws cells (by omega)
              obtain ⟨cells', k1, k2, k3⟩ := fillD_rep hpl (cells := (ws.zipIdx 0).foldl (fun cs (x : Value × Nat) => cs.setIfInBounds (off + x.2) x.1) cells) h r3
                (by rw [hput, hl]; exact ((q.take off).append e2).append (q.drop (off + ws.length))) (bnds_append (bnds_append (bnds_take _ hb) (cellsD_bnd h3 r2)) (bnds_drop _ hb))
              refine ⟨cells', ?_, k2, k3⟩
              unfold Instr.fill
              simp only [hpl f off ft inf h1 h2, e1]
              rw [if_neg (by simp; omega), ← k1]
              congr 1
              rw [← Array.foldl_toList]
              simp

theorem fillA_rep {n : Nat} :
    ∀ {ps : List (Nat × D)} {vs : List (Nat × Value)} {ds ds' : List D} {cells : Array Value}, fillA n ds ps = some ds' → RepP F S γ W B ps vs → RepDs W.cell? (Frz F S γ W) S.get γ ds cells.toList → bnds B ds →
      ∃ cells', Instr.fill (fun i => some (i * n, n)) cells vs = some cells' ∧ RepDs W.cell? (Frz F S γ W) S.get γ ds' cells'.toList ∧ bnds B ds'
  | [], vs, ds, ds', cells, h, r, q, hb => by
    simp only [fillA, Option.some.injEq] at h
    simp only [RepP] at r
    subst h; subst r
    exact ⟨cells, rfl, q, hb⟩
  | (f, d) :: ps, vs, ds, ds', cells, h, r, q, hb => by
    simp only [fillA] at h
    simp only [RepP] at r
    obtain ⟨v, us, rfl, r1, r2, r3⟩ := r
    cases h3 : cellsD d with
    | none => rw [h3] at h; simp at h
    | some cs =>
      rw [h3] at h
      simp only at h
      cases h4 : (Nat.beq n cs.length && cs.all D.leaf) with
      | false => rw [h4] at h; simp at h
      | true =>
        cases h5 : Nat.ble (f * n + cs.length) ds.length with
        | false => rw [h4, h5] at h; simp at h
        | true =>
          rw [h4, h5] at h
          simp only at h
          rw [Bool.and_eq_true] at h4
          obtain ⟨ws, e1, e2⟩ := cellsD_rep h3 r1 h4.2
          have hl := e2.length
          have e4 := Nat.eq_of_beq_eq_true h4.1
          have e5 := Nat.le_of_ble_eq_true h5
          have hql := q.length
          simp only [Array.length_toList] at hql
          have hput := fold_put (f * n) ws cells (by omega)
          obtain ⟨cells', k1, k2, k3⟩ := fillA_rep (cells := (ws.zipIdx 0).foldl (fun cs (x : Value × Nat) => cs.setIfInBounds (f * n + x.2) x.1) cells) h r3
            (by rw [hput, hl]; exact ((q.take (f * n)).append e2).append (q.drop (f * n + ws.length))) (bnds_append (bnds_append (bnds_take _ hb) (cellsD_bnd h3 r2)) (bnds_drop _ hb))
          refine ⟨cells', ?_, k2, k3⟩
          unfold Instr.fill
          simp only [e1]
          rw [if_neg (by simp; omega), ← k1]
          congr 1
          rw [← Array.foldl_toList]
          simp
theorem build_ok (hp : Hp F B S γ W) {t : TypeId} {ps : List (Nat × D)} {vs : List (Nat × Value)} {d : D} (h : xBuild P t ps = some d) (hr : RepP F S γ W B ps vs) :
    ∃ v, (Instr.build t vs.toArray).run P W = .ok v W ∧ RepD W.cell? (Frz F S γ W) S.get γ d v ∧ d.bnd B := by
  unfold xBuild at h
  cases hu : P.underlying t with
  | none => rw [hu] at h; simp at h
  | some u =>
    cases u with
    | array m el =>
      rw [hu] at h
      simp only at h
      cases h1 : P.info? el with
      | none => rw [h1] at h; simp at h
      | some inf =>
        cases h2 : zeroD P t with
        | none => rw [h1, h2] at h; simp at h
        | some z =>
          rw [h1, h2] at h
          simp only at h
          cases h3 : fillA inf.size z ps with
          | none => rw [h3] at h; simp at h
          | some cs =>
            rw [h3] at h
            simp only [Option.some.injEq] at h
            subst h
            obtain ⟨i, v, e1, e2, e3, e4, e5⟩ := zeroD_rep (cell := W.cell?) (G := Frz F S γ W) (get := S.get) (γ := γ) h2 B
            obtain ⟨cells', k1, k2, k3⟩ := fillA_rep h3 hr e3 e4
            refine ⟨.agg cells', run_build W t vs.toArray cells' ?_, ?_, mkAg_bnd k3⟩
            · unfold Program.built
              rw [e1, hu]
              simp only [e2, h1]
              exact k1
            · have := mkAg_rep k2
              simpa using this
    | struct fs =>
      rw [hu] at h
      simp only at h
      cases h1 : fs.toList.all (fun f => (P.info? f.type).isSome) with
      | false => rw [h1] at h; simp at h
      | true =>
        cases h2 : zeroD P t with
        | none => rw [h1, h2] at h; simp at h
        | some z =>
          rw [h1, h2] at h
          simp only at h
          cases h3 : fillD P t z ps with
          | none => rw [h3] at h; simp at h
          | some cs =>
            rw [h3] at h
            simp only [Option.some.injEq] at h
            subst h
            obtain ⟨i, v, e1, e2, e3, e4, e5⟩ := zeroD_rep (cell := W.cell?) (G := Frz F S γ W) (get := S.get) (γ := γ) h2 B
            obtain ⟨places, hpl⟩ := mapM_some (f := fun f : Field => (P.info? f.type).map fun i => (f.offset, i.size)) (l := fs.toList) (fun f hf => by
              have := List.all_eq_true.1 h1 f hf
              simpa using this)
            have hplace : ∀ f off ft i, fieldOf P t f = some (off, ft) → P.info? ft = some i → places.toArray[f]? = some (off, i.size) := by
              intro f off ft i hf hi
              unfold fieldOf at hf
              rw [hu] at hf
              simp only at hf
              cases hx : fs[f]? with
              | none => rw [hx] at hf; simp at hf
              | some x =>
                rw [hx] at hf
                simp only [Option.some.injEq, Prod.mk.injEq] at hf
                obtain ⟨rfl, rfl⟩ := hf
                obtain ⟨b, hb1, hb2⟩ := mapM_get hpl f x (by simpa using hx)
                rw [hi] at hb1
                simp only [Option.map_some, Option.some.injEq] at hb1
                subst hb1
                simpa using hb2
            obtain ⟨cells', k1, k2, k3⟩ := fillD_rep hplace h3 hr e3 e4
            refine ⟨.agg cells', run_build W t vs.toArray cells' ?_, ?_, mkAg_bnd k3⟩
            · unfold Program.built
              rw [e1, hu]
              simp only [e2, hpl]
              exact k1
            · have := mkAg_rep k2
              simpa using this
    | _ => rw [hu] at h; simp at h
end
end Go.XD


/- append. -/
namespace Go.XD

theorem like_trans {a b c : Ob} (h : like a b) (k : like b c) : like a c := by
  cases a <;> cases b <;> cases c <;> simp only [like] at h k ⊢ <;> try trivial
  all_goals first | exact ⟨h.1.trans k.1, h.2.trans k.2⟩ | exact h.trans k | exact h.trans k.symm | (rw [← k]; exact h)
theorem Stp.trans {F : Fm} {B : Nat → Prop} {S S1 S2 : St} {γ γ1 γ2 : Gam} {W W1 W2 : World} (h : Stp F B S γ W S1 γ1 W1) (k : Stp F B S1 γ1 W1 S2 γ2 W2) : Stp F B S γ W S2 γ2 W2 := by
  refine ⟨fun id hid ob h2 => ?_, k.os.trans h.os, k.tape.trans h.tape, k.output.trans h.output, Nat.le_trans h.size k.size, fun b hb hT => ?_, fun b hb => ?_⟩
  · obtain ⟨ob1, h1, l1, g1⟩ := k.hold id hid ob h2
    obtain ⟨ob0, h0, l0, g0⟩ := h.hold id hid ob1 h1
    exact ⟨ob0, h0, like_trans l0 l1, g1.trans g0⟩
  · refine (k.block b (Nat.lt_of_lt_of_le hb h.size) (fun ht => ?_)).trans (h.block b hb hT)
    rcases h.trk b ht with h1 | h1
    · exact hT h1
    · omega
  · rcases k.trk b hb with h1 | h1
    · rcases h.trk b h1 with h2 | h2
      · exact .inl h2
      · exact .inr ⟨h2.1, Nat.lt_of_lt_of_le h2.2 k.size⟩
    · exact .inr ⟨Nat.le_trans h.size h1.1, h1.2⟩

section
variable {P : Program} {F : Fm} {B : Nat → Prop} {S : St} {γ : Gam} {W : World} {fid : Nat}

/-- A row's cells, loaded. -/
theorem first_run {cell : Addr → Option Value} (hcell : cell = W.cell?) {G : Nat → Prop} {e : Ty} {xs : List e.T} {a : Option Addr} {c : Nat}
    (h : xs ≠ [] → ∃ ad : Addr, a = some ad ∧ okA ad ∧ ∀ (i : Nat) (x : e.T), xs[i]? = some x → RepC cell G e x (fun j => cell (ad.add (i * e.cells + j)))) :
    ∃ news : Array Value, (∀ W1 : World, W1.heap = W.heap → (Builtin.firstCells e.cells xs.length (.slice a xs.length c)).run P W1 = .ok news W1) ∧ news.size = xs.length * e.cells ∧ RepL cell G e xs (fun j => news[j]?) ∧ ∀ v ∈ news.toList, v.oneCell' = true := by
  subst hcell
  by_cases hne : xs = []
  · subst hne
    refine ⟨#[], fun W1 _ => ?_, by simp, fun i x hx => by simp at hx, by simp⟩
    cases a with
    | none => simp [Builtin.firstCells]
    | some ad => simp [Builtin.firstCells, loadCells, loadCellsFrom]
  · obtain ⟨ad, rfl, hs, hr⟩ := h hne
    have hpos : ∀ k, k < xs.length * e.cells → ∃ v, W.cell? (ad.add k) = some v ∧ v.oneCell' = true := fun k hk => by
      have hc : 0 < e.cells := by
        rcases Nat.eq_zero_or_pos e.cells with h0 | h0
        · rw [h0] at hk; simp at hk
        · exact h0
      have hi : k / e.cells < xs.length := (Nat.div_lt_iff_lt_mul hc).2 hk
      obtain ⟨v, h1, h2⟩ := (hr (k / e.cells) _ (List.getElem?_eq_getElem hi)).there (k % e.cells) (Nat.mod_lt _ hc)
      refine ⟨v, ?_, h2⟩
      rw [← h1]
      congr 2
      rw [Nat.mul_comm]
      exact (Nat.div_add_mod k e.cells).symm
    have hf : ∀ j, j < xs.length * e.cells → W.cell? (ad.add j) = some ((W.cell? (ad.add j)).getD undef) := fun j hj => by
      obtain ⟨v, hv, _⟩ := hpos j hj
      simp [hv]
    refine ⟨((List.range (xs.length * e.cells)).map (fun j => (W.cell? (ad.add j)).getD undef)).toArray, fun W1 hW1 => ?_, by simp, fun i x hx => ?_, fun v hv => ?_⟩
    · simp only [Builtin.firstCells]
      exact run_loadCells W1 ad _ _ (fun j hj => by rw [cell_of_block (W := W) (by rw [hW1])]; exact hf j hj)
    · have hlt : i < xs.length := (List.getElem?_eq_some_iff.1 hx).1
      refine (hr i x hx).congr (fun j hj => ?_)
      have hm : (i + 1) * e.cells ≤ xs.length * e.cells := Nat.mul_le_mul_right _ hlt
      rw [Nat.add_mul, Nat.one_mul] at hm
      have hk : i * e.cells + j < xs.length * e.cells := by omega
      show W.cell? (ad.add (i * e.cells + j)) = ((List.range (xs.length * e.cells)).map (fun j => (W.cell? (ad.add j)).getD undef)).toArray[i * e.cells + j]?
      rw [range_get, if_pos hk]
      exact hf _ hk
    · simp only [List.mem_map, List.mem_range] at hv
      obtain ⟨j, hj, rfl⟩ := hv
      obtain ⟨v, h1, h2⟩ := hpos j hj
      rw [h1]
      exact h2

/-- What an operand of append has. -/
theorem elems_rep (hp : Hp F B S γ W) {e : Ty} {d : D} {v : Value} {ys : List e.T} (h : elemsD S.get e d = some ys) (r : RepD W.cell? (Frz F S γ W) S.get γ d v) :
    ∃ a c, v = .slice a ys.length c ∧ ys.length ≤ 140737488355328 ∧ (ys ≠ [] → ∃ ad : Addr, a = some ad ∧ okA ad ∧ ∀ (i : Nat) (x : e.T), ys[i]? = some x → RepC W.cell? (Frz F S γ W) e x (fun j => W.cell? (ad.add (i * e.cells + j)))) := by
  cases d with
  | nils =>
    simp only [elemsD, Option.some.injEq] at h
    subst h
    simp only [RepD] at r
    subst r
    exact ⟨none, 0, rfl, by simp, fun h => absurd rfl h⟩
  | fz t x =>
    simp only [elemsD] at h
    obtain ⟨he, hx⟩ := castT_some h
    subst he; subst hx
    obtain ⟨a, c, h1, _, h3, h4⟩ := of_lst r
    refine ⟨a, c, h1, h3, fun hne => ?_⟩
    obtain ⟨ad, k1, k2, _, k4⟩ := h4 hne
    exact ⟨ad, k1, k2, k4⟩
  | sf id =>
    simp only [elemsD] at h
    cases hg : S.get id with
    | none => rw [hg] at h; simp at h
    | some ob =>
      cases ob with
      | cells ds => rw [hg] at h; simp at h
      | arr _ _ _ => rw [hg] at h; simp at h
      | opt _ _ => rw [hg] at h; simp at h
      | mp _ _ _ _ => rw [hg] at h; simp at h
      | bh _ _ _ _ _ => rw [hg] at h; simp at h
      | buf e' xs =>
        rw [hg] at h
        simp only at h
        obtain ⟨he, hx⟩ := castT_some h
        simp only [Ty.lst.injEq] at he
        subst he
        subst hx
        simp only [RepD] at r
        rw [hg] at r
        obtain ⟨_, r⟩ := r
        rcases r with ⟨g, c, r1, rfl⟩ | ⟨r1, a, rfl⟩
        · rcases hp.obs id _ hg with ⟨q1, _⟩ | ⟨g', c', vs, t, q1, q2, q3, q4, q5, q6⟩
          · first | exact (hd_ne r1 q1).elim | exact (hd_ne' r1 q1).elim
          · have q1h := hd_one q1
            rw [r1] at q1h
            simp only [Option.some.injEq, Prod.mk.injEq] at q1h
            obtain ⟨rfl, rfl⟩ := q1h
            refine ⟨_, _, rfl, q5, fun _ => ⟨_, rfl, trivial, fun i x hx => (q6 i x hx).congr (fun j _ => ?_)⟩⟩
            rw [add_eq _ rfl]
            simp [World.cell?, q2]
        · rcases hp.obs id _ hg with ⟨q1, rfl⟩ | ⟨g', c', vs, t, q1, _⟩
          · exact ⟨a, 0, rfl, by simp, fun h => absurd rfl h⟩
          · first | exact (hd_ne r1 q1).elim | exact (hd_ne' r1 q1).elim
  | _ => simp [elemsD] at h

theorem growBy_le (need : Nat) : ∀ (n c : Nat), c < need → Builtin.growBy need n c ≤ need + (need + 768) / 4
  | 0, c, h => by simp only [Builtin.growBy]; omega
  | n + 1, c, h => by
    simp only [Builtin.growBy]
    split
    · omega
    · by_cases h2 : c + (c + 768) / 4 < need
      · exact growBy_le need n _ h2
      · have : ∀ m c, need ≤ c → Builtin.growBy need m c = c := by
          intro m
          induction m with
          | zero => intro c _; rfl
          | succ m ih => intro c hc; simp only [Builtin.growBy]; rw [if_pos hc]
        rw [this n _ (by omega)]
        omega
theorem nextcap_le {need c bytes : Nat} (hc : c < need) (h : need * bytes ≤ 35184372088832) : ¬ Builtin.nextslicecap need c * bytes > 2 ^ 48 := by
  have key : ∀ m, m ≤ 2 * need → m * bytes ≤ 2 ^ 48 := fun m hm => by
    have := Nat.mul_le_mul_right bytes hm
    rw [Nat.mul_assoc] at this
    omega
  unfold Builtin.nextslicecap
  split
  · have := key need (by omega); omega
  · split
    · have := key (2 * c) (by omega); omega
    · have h1 := growBy_le need 4 c hc
      have := key (Builtin.growBy need 4 c) (by omega)
      omega

theorem bufAt_ok (hp : Hp F B S γ W) {S' : St} {γ' : Gam} {W' : World} {v : Value} {r : Res} (h1 : Stp F B S γ W ⟨S.nx, r.u ++ S.m⟩ γ' W') (h2 : Hp F (ins B fid) ⟨S.nx, r.u ++ S.m⟩ γ' W') (hd : r.d = .sf fid)
    {e : Ty} {xs : List e.T} (hget : St.get ⟨S.nx, r.u ++ S.m⟩ fid = some (.buf e xs)) (hv : (∃ g c, hdG γ' fid = some (g, c) ∧ v = .slice (some ⟨g, 0, none⟩) xs.length c) ∨ (hdG γ' fid = none ∧ ∃ a, v = .slice a 0 0)) :
    OpOK F B S γ W fid (.ok (.value v) W') r := by
  refine ⟨_, _, _, rfl, .inl ⟨_, rfl, ?_⟩, h1, h2, ?_⟩
  · rw [hd]
    simp only [RepD]
    rw [hget]
    refine ⟨?_, hv⟩
    rcases hv with ⟨g, c, _, rfl⟩ | ⟨_, a, rfl⟩ <;> rfl
  · rw [hd]
    exact .inr rfl

/-- append's run: within the capacity; and beyond it. -/
theorem run_append_in {W1 : World} {t t' ty el el' : TypeId} {inf : TypeInfo} (hu : P.underlying t = some (.slice el)) (hu' : P.underlying t' = some (.slice el')) (hi : P.info? el = some inf) {a b : Option Addr} {n c m d : Nat} {news : Array Value}
    (hfit : n + m ≤ c) (hn : (Builtin.firstCells inf.size m (.slice b m d)).run P W = .ok news W) (hst : (match a with | some a => storeCells (a.add (n * inf.size)) news.toList | none => pure ()).run P W = .ok () W1) :
    (do pure (.value (← Builtin.append_ #[t, t'] ty #[.slice a n c, .slice b m d])) : Sem Next).run P W = .ok (.value (.slice a (n + m) c)) W1 := by
  have hsz := run_size hi W
  cases a with
  | none =>
    simp only [Sem.run_pure, Result.ok.injEq, true_and] at hst
    subst hst
    simp [Builtin.append_, run_underlying hu, run_underlying hu', hsz, Builtin.lenOf, hfit, hn]
  | some a =>
    simp only at hst
    simp [Builtin.append_, run_underlying hu, run_underlying hu', hsz, Builtin.lenOf, hfit, hn, hst]
theorem run_append_out {t t' ty el el' : TypeId} {inf : TypeInfo} {z : Value} (hu : P.underlying t = some (.slice el)) (hu' : P.underlying t' = some (.slice el')) (hi : P.info? el = some inf) (hz : inf.zero = some z) {a b : Option Addr} {n c m d : Nat} {news olds : Array Value}
    (hlt : c < n + m) (hsm : n + m ≤ 35184372088832) (hcap : ¬ Builtin.nextslicecap (n + m) c * inf.bytes > 2 ^ 48) (hn : ∀ W1 : World, W1.heap = W.heap → (Builtin.firstCells inf.size m (.slice b m d)).run P W1 = .ok news W1)
    (ho : ∀ W1 : World, W1.heap = W.heap → (Builtin.firstCells inf.size n (.slice a n c)).run P W1 = .ok olds W1) :
    (do pure (.value (← Builtin.append_ #[t, t'] ty #[.slice a n c, .slice b m d])) : Sem Next).run P W =
      .ok (.value (.slice (some ⟨W.heap.size, 0, none⟩) (n + m) ((Question.appendCap (n + m) c el).cut (W.tape W.drawn (Question.appendCap (n + m) c el)))))
        { W with drawn := W.drawn + 1, heap := W.heap.push (.cells (olds ++ news ++ Builtin.zeroCells z.cells ((Question.appendCap (n + m) c el).cut (W.tape W.drawn (Question.appendCap (n + m) c el)) - (n + m))) el (0, 0)) } := by
  have hsz := fun W => run_size hi W
  have hti := fun W => run_typeInfo (P := P) (w := W) hi
  have hzv : ∀ W, (zeroValue el).run P W = .ok z W := fun W => by simp [zeroValue, typeInfo, hi, hz]
  have hno : ¬ (n + m ≤ c) := by omega
  have hmx : ¬ ((n : Int) + (m : Int) > IntKind.i64.max) := by simp [IntKind.max, IntKind.signed, IntKind.bits]; omega
  have hn' := hn { W with drawn := W.drawn + 1 } rfl
  have ho' := ho { W with drawn := W.drawn + 1 } rfl
  have hforced : (Question.appendCap (n + m) c el).forced = false := rfl
  have hcap' : ¬ (2 ^ 48 < Builtin.nextslicecap (n + m) c * inf.bytes) := hcap
  have hmx' : ¬ (9223372036854775807 < (n : Int) + (m : Int)) := by omega
  have hn2 := hn W.drew rfl
  have ho2 := ho W.drew rfl
  simp [Builtin.append_, run_underlying hu, run_underlying hu', hsz, hti, Builtin.lenOf, hno, hmx, hmx', hcap, hcap', hn', ho', hn2, ho2, hzv, hforced, newRow]
  try rfl

/-- The run of append where it stays in its block, and where it moves. -/
theorem append_ok (hp : Hp F B S γ W) (hf : ¬ B fid) {t t' : TypeId} {s x : D} {v u : Value} {r : Res} {el' : TypeId} (hu' : P.underlying t' = some (.slice el')) (h : xAppend P S.get fid t s x = some r) (hc : r.c = true)
    (hs : RepD W.cell? (Frz F S γ W) S.get γ s v) (hx : RepD W.cell? (Frz F S γ W) S.get γ x u) (ty : TypeId) :
    OpOK F B S γ W fid ((do pure (.value (← Builtin.append_ #[t, t'] ty #[v, u])) : Sem Next).run P W) r := by
  unfold xAppend at h
  cases hu : P.underlying t with
  | none => rw [hu] at h; simp at h
  | some q =>
    cases q with
    | slice el =>
      rw [hu] at h
      simp only at h
      cases hi : P.info? el with
      | none => rw [hi] at h; simp at h
      | some inf =>
        cases ht : Go.XD.ty P el with
        | none => rw [hi, ht] at h; simp at h
        | some e =>
          rw [hi, ht] at h
          simp only at h
          cases h1 : (Nat.beq e.cells inf.size && (zeroD P el).isSome) with
          | false => rw [h1] at h; simp at h
          | true =>
            cases h2 : baseD S.get e s with
            | none => rw [h1, h2] at h; simp at h
            | some p =>
              obtain ⟨xs, ups⟩ := p
              cases h3 : elemsD S.get e x with
              | none => rw [h1, h2, h3] at h; simp at h
              | some ys =>
                rw [h1, h2, h3] at h
                simp only [Option.some.injEq] at h
                subst h
                simp only [decide_eq_true_eq] at hc
                rw [Bool.and_eq_true] at h1
                have e1 := Nat.eq_of_beq_eq_true h1.1
                obtain ⟨zd, hzd⟩ := Option.isSome_iff_exists.1 h1.2
                obtain ⟨i', z, z1, z2, _, _, z3⟩ := zeroD_rep (cell := W.cell?) (G := Frz F S γ W) (get := S.get) (γ := γ) hzd B
                rw [hi] at z1
                simp only [Option.some.injEq] at z1
                subst z1
                obtain ⟨a, c2, rfl, hyl, hya⟩ := elems_rep hp h3 hx
                obtain ⟨news, n1, n2, n3, n4⟩ := first_run (P := P) (W := W) rfl (G := Frz F S γ W) (e := e) (xs := ys) (a := a) (c := c2) hya
                have hlen : (xs ++ ys).length = xs.length + ys.length := List.length_append
                have hbytes : (xs.length + ys.length) * inf.bytes ≤ 35184372088832 := by
                  rw [hlen] at hc
                  exact Nat.le_trans (Nat.mul_le_mul_left _ (by omega)) hc
                have hlim : xs.length + ys.length ≤ 35184372088832 := by
                  rw [hlen] at hc
                  exact Nat.le_trans (Nat.le_mul_of_pos_right _ (by omega)) hc
                have hzero : (zeroValue el).run P W = .ok z W := by simp [zeroValue, typeInfo, hi, z2]
                have hsize := run_size hi W
                -- the base
                have hbase : (∃ a0, v = .slice a0 0 0 ∧ xs = [] ∧ Hp F B ⟨S.nx, ups ++ S.m⟩ γ W ∧ Stp F B S γ W ⟨S.nx, ups ++ S.m⟩ γ W) ∨
                    (∃ id ob g c vs tt, s = .sf id ∧ ups = [(id, none)] ∧ S.get id = some ob ∧ γ id = [(g, c)] ∧ v = .slice (some ⟨g, 0, none⟩) xs.length c ∧ W.heap[g]? = some (.cells vs tt (0, 0)) ∧ xs.length ≤ c ∧ c * e.cells ≤ vs.size ∧
                      RepL W.cell? (Frz F S γ W) e xs (fun j => vs[j]?)) := by
                  cases s with
                  | nils =>
                    simp only [baseD, Option.some.injEq, Prod.mk.injEq] at h2
                    obtain ⟨rfl, rfl⟩ := h2
                    simp only [RepD] at hs
                    subst hs
                    exact .inl ⟨none, rfl, rfl, hp, Stp.refl _ _ _ _ _⟩
                  | sf id =>
                    simp only [baseD] at h2
                    cases hg : S.get id with
                    | none => rw [hg] at h2; simp at h2
                    | some ob =>
                      cases ob with
                      | cells ds => rw [hg] at h2; simp at h2
                      | arr _ _ _ => rw [hg] at h2; simp at h2
                      | opt _ _ => rw [hg] at h2; simp at h2
                      | mp _ _ _ _ => rw [hg] at h2; simp at h2
                      | bh _ _ _ _ _ => rw [hg] at h2; simp at h2
                      | buf e' xs' =>
                        rw [hg] at h2
                        simp only at h2
                        cases hcst : castT (.lst e) (.lst e') xs' with
                        | none => rw [hcst] at h2; simp at h2
                        | some w =>
                          rw [hcst] at h2
                          simp only [Option.some.injEq, Prod.mk.injEq] at h2
                          obtain ⟨rfl, rfl⟩ := h2
                          obtain ⟨he, hxx⟩ := castT_some hcst
                          simp only [Ty.lst.injEq] at he
                          subst he
                          subst hxx
                          simp only [RepD] at hs
                          rw [hg] at hs
                          obtain ⟨_, hs⟩ := hs
                          rcases hs with ⟨g, c, r1, rfl⟩ | ⟨r1, a0, rfl⟩
                          · rcases hp.obs id _ hg with ⟨q1, _⟩ | ⟨g', c', vs, tt, q1, q2, q3, q4, q5, q6⟩
                            · first | exact (hd_ne r1 q1).elim | exact (hd_ne' r1 q1).elim
                            · have q1h := hd_one q1
                              rw [r1] at q1h
                              simp only [Option.some.injEq, Prod.mk.injEq] at q1h
                              obtain ⟨rfl, rfl⟩ := q1h
                              exact .inr ⟨id, _, g, c, vs, tt, rfl, rfl, hg, q1, rfl, q2, q3, q4, q6⟩
                          · rcases hp.obs id _ hg with ⟨q1, rfl⟩ | ⟨g', c', vs, tt, q1, _⟩
                            · have := hp.sub ⟨S.nx, (id, none) :: S.m⟩ (fun k ob h => by
                                rw [get_cons] at h
                                split at h
                                · cases h
                                · exact h)
                              exact .inl ⟨a0, rfl, rfl, this.2, this.1⟩
                            · first | exact (hd_ne r1 q1).elim | exact (hd_ne' r1 q1).elim
                  | _ => simp [baseD] at h2
                have hgetf : ∀ m, St.get ⟨S.nx, ((fid, some (Ob.buf e (xs ++ ys))) :: ups) ++ m⟩ fid = some (.buf e (xs ++ ys)) := fun m => by
                  rw [List.cons_append, get_cons, if_pos rfl]
                -- a new block
                have hgrow : ∀ (a0 : Option Addr) (c : Nat), c < xs.length + ys.length → (∃ olds : Array Value, (∀ W1 : World, W1.heap = W.heap → (Builtin.firstCells e.cells xs.length (.slice a0 xs.length c)).run P W1 = .ok olds W1) ∧ olds.size = xs.length * e.cells ∧ RepL W.cell? (Frz F S γ W) e xs (fun j => olds[j]?)) →
                    Hp F B ⟨S.nx, ups ++ S.m⟩ γ W → Stp F B S γ W ⟨S.nx, ups ++ S.m⟩ γ W →
                    OpOK F B S γ W fid ((do pure (.value (← Builtin.append_ #[t, t'] ty #[.slice a0 xs.length c, .slice a ys.length c2])) : Sem Next).run P W) ⟨decide ((xs ++ ys).length * (inf.bytes + inf.size + 1) ≤ 35184372088832), .sf fid, (fid, some (.buf e (xs ++ ys))) :: ups⟩ := by
                  intro a0 c hlt ⟨olds, o1, o2, o3⟩ hp1 hst1
                  generalize hnc : (Question.appendCap (xs.length + ys.length) c el).cut (W.tape W.drawn (Question.appendCap (xs.length + ys.length) c el)) = nc
                  have hge : xs.length + ys.length ≤ nc := by
                    rw [← hnc]
                    simp only [Question.cut]
                    omega
                  have hcap := nextcap_le hlt hbytes
                  have hrun : (do pure (.value (← Builtin.append_ #[t, t'] ty #[.slice a0 xs.length c, .slice a ys.length c2])) : Sem Next).run P W =
                      .ok (.value (.slice (some ⟨W.heap.size, 0, none⟩) (xs ++ ys).length nc)) { W with drawn := W.drawn + 1, heap := W.heap.push (.cells (olds ++ news ++ Builtin.zeroCells z.cells (nc - (xs.length + ys.length))) el (0, 0)) } := by
                    have := run_append_out (P := P) (W := W) (t := t) (t' := t') (ty := ty) hu hu' hi z2 (a := a0) (b := a) (n := xs.length) (c := c) (m := ys.length) (d := c2) (news := news) (olds := olds) hlt hlim hcap (by rw [← e1]; exact n1) (by rw [← e1]; exact o1)
                    rw [this, hnc, hlen]
                  rw [hrun]
                  have hnsz : (olds ++ news ++ Builtin.zeroCells z.cells (nc - (xs.length + ys.length))).size = nc * e.cells := by
                    simp only [Array.size_append, o2, n2, Builtin.zeroCells, Array.size_map, Array.size_range, z3, e1, ← Nat.add_mul]
                    congr 1
                    omega
                  obtain ⟨k1, k2⟩ := hp1.alloc (W' := { W with drawn := W.drawn + 1, heap := W.heap.push (.cells (olds ++ news ++ Builtin.zeroCells z.cells (nc - (xs.length + ys.length))) el (0, 0)) }) hf S.nx nc _ el (.buf e (xs ++ ys)) rfl rfl rfl rfl
                    ⟨by rw [hlen]; exact hge, by rw [hnsz]; exact Nat.le_refl _, by rw [hlen]; omega, fun i x hx => by
                      refine RepC.mono (fun _ _ => rfl) (fun _ h => hst1.frz h) ?_
                      by_cases hlt' : i < xs.length
                      · rw [List.getElem?_append_left hlt'] at hx
                        refine (o3 i x hx).congr (fun j hj => ?_)
                        have hm : (i + 1) * e.cells ≤ xs.length * e.cells := Nat.mul_le_mul_right _ hlt'
                        rw [Nat.add_mul, Nat.one_mul] at hm
                        show olds[i * e.cells + j]? = (olds ++ news ++ Builtin.zeroCells z.cells (nc - (xs.length + ys.length)))[i * e.cells + j]?
                        rw [Array.getElem?_append_left (by rw [Array.size_append]; omega), Array.getElem?_append_left (by omega)]
                      · rw [List.getElem?_append_right (by omega)] at hx
                        have hlt2 : i - xs.length < ys.length := (List.getElem?_eq_some_iff.1 hx).1
                        refine (n3 (i - xs.length) x hx).congr (fun j hj => ?_)
                        have hm : (i - xs.length + 1) * e.cells ≤ ys.length * e.cells := Nat.mul_le_mul_right _ hlt2
                        have hm2 : i * e.cells = xs.length * e.cells + (i - xs.length) * e.cells := by rw [← Nat.add_mul]; congr 1; omega
                        rw [Nat.add_mul, Nat.one_mul] at hm
                        show news[(i - xs.length) * e.cells + j]? = (olds ++ news ++ Builtin.zeroCells z.cells (nc - (xs.length + ys.length)))[i * e.cells + j]?
                        rw [Array.getElem?_append_left (by rw [Array.size_append]; omega), Array.getElem?_append_right (by omega)]
                        congr 1
                        omega⟩
                  exact bufAt_ok hp (S' := S) (hst1.trans k1) k2 rfl (hgetf S.m) (.inl ⟨_, _, updG_hd _ _ _, rfl⟩)
                rcases hbase with ⟨a0, rfl, rfl, hp1, hst1⟩ | ⟨id, ob, g, c, vs, tt, rfl, rfl, hob, hg, rfl, hblk, hxc, hroom, hrl⟩
                · by_cases hy : ys = []
                  · subst hy
                    have hrun : (do pure (.value (← Builtin.append_ #[t, t'] ty #[.slice a0 0 0, .slice a ([] : List e.T).length c2])) : Sem Next).run P W = .ok (.value (.slice a0 0 0)) W :=
                      run_append_in hu hu' hi (n := 0) (m := 0) (news := news) (by omega) (by rw [← e1]; exact n1 W rfl) (by
                        have : news = #[] := Array.eq_empty_of_size_eq_zero (by simpa using n2)
                        subst this
                        cases a0 <;> simp [storeCells])
                    rw [hrun]
                    obtain ⟨k1, k2⟩ := hp1.allocNone hf S.nx e
                    exact bufAt_ok hp (S' := S) (hst1.trans k1) k2 rfl (hgetf S.m) (.inr ⟨updG_hd0 _ _, a0, rfl⟩)
                  · have hpos : 0 < ys.length := List.length_pos_iff.2 hy
                    exact hgrow a0 0 (by simpa using hpos) ⟨#[], fun W1 _ => by
                      cases a0 with
                      | none => simp [Builtin.firstCells]
                      | some ad => simp [Builtin.firstCells, loadCells, loadCellsFrom], by simp, fun i x hx => by simp at hx⟩ hp1 hst1
                · by_cases hfit : xs.length + ys.length ≤ c
                  · have q1 : vs.toList.length = vs.size := Array.length_toList
                    have q2 : news.toList.length = news.size := Array.length_toList
                    have hm : (xs.length + ys.length) * e.cells ≤ c * e.cells := Nat.mul_le_mul_right _ hfit
                    rw [Nat.add_mul] at hm
                    have hst := run_storeCells_at (P := P) g (xs.length * e.cells) tt news.toList 0 vs W hblk (by rw [q2, n2]; omega) n4
                    simp only [Nat.add_zero] at hst
                    have hrun : (do pure (.value (← Builtin.append_ #[t, t'] ty #[.slice (some ⟨g, 0, none⟩) xs.length c, .slice a ys.length c2])) : Sem Next).run P W =
                        .ok (.value (.slice (some ⟨g, 0, none⟩) (xs ++ ys).length c)) (W.setRow g (vs.toList.take (xs.length * e.cells) ++ news.toList ++ vs.toList.drop (xs.length * e.cells + news.toList.length)).toArray) := by
                      rw [hlen]
                      refine run_append_in hu hu' hi (news := news) hfit (by rw [← e1]; exact n1 W rfl) ?_
                      show (storeCells ((⟨g, 0, none⟩ : Addr).add (xs.length * inf.size)) news.toList).run P W = _
                      rw [add_eq _ rfl, ← e1]
                      simpa using hst
                    rw [hrun]
                    obtain ⟨k1, k2⟩ := hp.move (W' := W.setRow g (vs.toList.take (xs.length * e.cells) ++ news.toList ++ vs.toList.drop (xs.length * e.cells + news.toList.length)).toArray) hf S.nx (e := e) (xs := xs ++ ys) hob hg (setRow_heap W g vs _ tt _ hblk) (fun b hb => setRow_other W g b _ hb) (by simp) rfl rfl rfl
                      ⟨by rw [hlen]; exact hfit, by
                        have q1 : vs.toList.length = vs.size := Array.length_toList
                        have q2 : news.toList.length = news.size := Array.length_toList
                        rw [List.size_toArray, List.length_append, List.length_append, List.length_take, List.length_drop, q1, q2, n2]
                        omega, by rw [hlen]; omega, fun i x hx => by
                        have hget : ∀ q, (vs.toList.take (xs.length * e.cells) ++ news.toList ++ vs.toList.drop (xs.length * e.cells + news.toList.length)).toArray[q]? =
                            if xs.length * e.cells ≤ q ∧ q < xs.length * e.cells + news.toList.length then news.toList[q - xs.length * e.cells]? else vs[q]? := fun q => by
                          rw [List.getElem?_toArray, take_drop_get _ _ _ _ (by rw [q1, q2, n2]; omega)]
                          simp
                        by_cases hlt' : i < xs.length
                        · rw [List.getElem?_append_left hlt'] at hx
                          refine (hrl i x hx).congr (fun j hj => ?_)
                          have hm : (i + 1) * e.cells ≤ xs.length * e.cells := Nat.mul_le_mul_right _ hlt'
                          rw [Nat.add_mul, Nat.one_mul] at hm
                          simp only [hget]
                          rw [if_neg (by omega)]
                        · rw [List.getElem?_append_right (by omega)] at hx
                          have hlt2 : i - xs.length < ys.length := (List.getElem?_eq_some_iff.1 hx).1
                          refine (n3 (i - xs.length) x hx).congr (fun j hj => ?_)
                          have hm : (i - xs.length + 1) * e.cells ≤ ys.length * e.cells := Nat.mul_le_mul_right _ hlt2
                          have hm2 : i * e.cells = xs.length * e.cells + (i - xs.length) * e.cells := by rw [← Nat.add_mul]; congr 1; omega
                          rw [Nat.add_mul, Nat.one_mul] at hm
                          simp only [hget]
                          rw [if_pos (by rw [q2, n2]; omega), Array.getElem?_toList]
                          congr 1
                          omega⟩
                    exact bufAt_ok hp (S' := S) k1 k2 rfl (hgetf S.m) (.inl ⟨_, _, updG_hd _ _ _, rfl⟩)
                  · obtain ⟨olds, o1, o2, o3, _⟩ := first_run (P := P) (W := W) rfl (G := Frz F S γ W) (e := e) (xs := xs) (a := some ⟨g, 0, none⟩) (c := c) (fun _ => ⟨⟨g, 0, none⟩, rfl, trivial, fun i x hx => (hrl i x hx).congr (fun j _ => by
                      rw [add_eq _ rfl]
                      simp [World.cell?, hblk])⟩)
                    have hsub := hp.sub ⟨S.nx, (id, none) :: S.m⟩ (fun k ob h => by
                      rw [get_cons] at h
                      split at h
                      · cases h
                      · exact h)
                    exact hgrow _ c (by omega) ⟨olds, o1, o2, o3⟩ hsub.2 hsub.1
    | _ => rw [hu] at h; simp at h
end
end Go.XD


/- Slices' pieces, make, places, arithmetic. -/
namespace Go.XD

section
variable {P : Program} {F : Fm} {B : Nat → Prop} {S : St} {γ : Gam} {W : World} {fid : Nat}

theorem field_run' {s ft : TypeId} {f off : Nat} {i : TypeInfo} (h : fieldOf P s f = some (off, ft)) (hi : P.info? ft = some i) (h0 : i.size ≠ 0) (a : Addr) :
    (Instr.fieldAt s (.pointer (some a)) f).run P W = .ok (.pointer (some (a.add off))) W := by
  unfold fieldOf at h
  cases hu : P.underlying s with
  | none => rw [hu] at h; simp at h
  | some u =>
    cases u with
    | struct fs =>
      rw [hu] at h
      simp only at h
      cases hx : fs[f]? with
      | none => rw [hx] at h; simp at h
      | some x =>
        rw [hx] at h
        simp only [Option.some.injEq, Prod.mk.injEq] at h
        obtain ⟨rfl, rfl⟩ := h
        simp [Instr.fieldAt, run_underlying hu, hx, Instr.sureAddr, fieldPlace, run_size hi, h0]
    | _ => rw [hu] at h; simp at h
theorem field_run {s ft : TypeId} {f off : Nat} {i : TypeInfo} (h : fieldOf P s f = some (off, ft)) (hi : P.info? ft = some i) (h0 : i.size ≠ 0) (g o : Nat) :
    (Instr.fieldAt s (.pointer (some ⟨g, o, none⟩)) f).run P W = .ok (.pointer (some ⟨g, o + off, none⟩)) W := by
  unfold fieldOf at h
  cases hu : P.underlying s with
  | none => rw [hu] at h; simp at h
  | some u =>
    cases u with
    | struct fs =>
      rw [hu] at h
      simp only at h
      cases hx : fs[f]? with
      | none => rw [hx] at h; simp at h
      | some x =>
        rw [hx] at h
        simp only [Option.some.injEq, Prod.mk.injEq] at h
        obtain ⟨rfl, rfl⟩ := h
        simp [Instr.fieldAt, run_underlying hu, hx, Instr.sureAddr, fieldPlace, run_size hi, h0, add_eq]
    | _ => rw [hu] at h; simp at h

theorem isCells_some {look : Nat → Option Ob} {id : Nat} (h : isCells look id = true) : ∃ ds, look id = some (.cells ds) := by
  unfold isCells at h
  split at h
  · exact ⟨_, by assumption⟩
  · cases h
theorem isBuf_some {look : Nat → Option Ob} {id : Nat} (h : isBuf look id = true) : ∃ e xs, look id = some (.buf e xs) ∨ ∃ i off d, look id = some (.bh e xs i off d) := by
  unfold isBuf at h
  split at h
  · exact ⟨_, _, .inl (by assumption)⟩
  · exact ⟨_, _, .inr ⟨_, _, _, by assumption⟩⟩
  · cases h

theorem fieldAddr_ok (hp : Hp F B S γ W) {s ft : TypeId} {f off : Nat} {i : TypeInfo} {p d : D} {v : Value} (h : fieldOf P s f = some (off, ft)) (hi : P.info? ft = some i) (h0 : Nat.beq i.size 0 = false)
    (hd : RepD W.cell? (Frz F S γ W) S.get γ p v) (hb : p.bnd B) (hx : xAddr S.get p off = some d) :
    ∃ u, (Instr.fieldAt s v f).run P W = .ok u W ∧ RepD W.cell? (Frz F S γ W) S.get γ d u ∧ d.bnd B := by
  have h0' := Nat.ne_of_beq_eq_false h0
  cases p with
  | fp fs x o =>
    simp only [xAddr, Option.some.injEq] at hx
    subst hx
    simp only [RepD] at hd
    obtain ⟨ad, h1, h2, h3, rfl⟩ := hd
    have := field_run' (W := W) h hi h0' (ad.add o)
    refine ⟨_, this, ?_, trivial⟩
    simp only [RepD]
    exact ⟨ad, h1, h2, h3, by rw [add_add]⟩
  | ptr id o =>
    simp only [xAddr] at hx
    cases hl : isCells S.get id with
    | false => rw [hl] at hx; simp at hx
    | true =>
      rw [hl] at hx
      simp only [Option.some.injEq] at hx
      subst hx
      obtain ⟨ds, hds⟩ := isCells_some hl
      simp only [RepD] at hd
      rw [hds] at hd
      obtain ⟨_, g, c, h1, rfl⟩ := hd
      refine ⟨_, field_run h hi h0' g o, ?_, hb⟩
      simp only [RepD]
      rw [hds]
      exact ⟨rfl, g, c, h1, rfl⟩
  | bp id j o =>
    simp only [xAddr] at hx
    cases hl : isBuf S.get id with
    | false => rw [hl] at hx; simp at hx
    | true =>
      rw [hl] at hx
      simp only [Option.some.injEq] at hx
      subst hx
      obtain ⟨e, xs, hds | ⟨_, _, _, hds⟩⟩ := isBuf_some hl
      all_goals
        simp only [RepD] at hd
        rw [hds] at hd
        obtain ⟨_, hlt, g, c, h1, rfl⟩ := hd
        refine ⟨_, field_run h hi h0' g _, ?_, hb⟩
        simp only [RepD]
        rw [hds]
        exact ⟨rfl, hlt, g, c, h1, by rw [Nat.add_assoc]⟩
  | _ => simp [xAddr] at hx

theorem unP_rep {B : Nat → Prop} {cell : Addr → Option Value} {G : Nat → Prop} {get : Nat → Option Ob} {γ : Gam} {d : D} {v : Value} (hd : RepD cell G get γ d v) (hb : d.bnd B) (hc : unC d = true) : RepD cell G get γ (unP d) v ∧ (unP d).bnd B := by
  unfold unP
  split
  · simp only [unC] at hc
    rcases of_ptr hd with ⟨rfl, _⟩ | ⟨z, rfl, ad, rfl, h2, h3, h4⟩
    · simp at hc
    · simp only [RepD, Option.getD_some, D.bnd, and_true]
      exact ⟨ad, h2, h3, h4, by rw [add_zero]⟩
  · exact ⟨hd, hb⟩
theorem nil_ok (hp : Hp F B S γ W) {x : D} {v : Value} {r : Res} {f : Value → Sem Next} (hf : ∀ a, f (.pointer (some a)) = pure (.value (.pointer (some a)))) (h : xNil S.get x = some r) (hc : r.c = true) (hd : RepD W.cell? (Frz F S γ W) S.get γ x v) (hb : x.bnd B) :
    OpOK F B S γ W fid ((f v).run P W) r := by
  cases x with
  | fz t y =>
    cases t with
    | ptr g =>
      simp only [xNil, Option.some.injEq] at h
      subst h
      simp only at hc
      rcases of_ptr hd with ⟨rfl, _⟩ | ⟨z, rfl, ad, rfl, h2, h3, h4⟩
      · simp at hc
      · rw [hf]
        refine OpOK.same hp ?_ trivial
        simp only [RepD, Option.getD_some]
        exact ⟨ad, h2, h3, h4, by rw [add_zero]⟩
    | _ => simp [xNil] at h
  | fp fs y off =>
    simp only [xNil, Option.some.injEq] at h
    subst h
    simp only [RepD] at hd
    obtain ⟨ad, h1, h2, h3, rfl⟩ := hd
    rw [hf]
    refine OpOK.same hp ?_ trivial
    simp only [RepD]
    exact ⟨ad, h1, h2, h3, rfl⟩
  | ptr id off =>
    simp only [xNil] at h
    cases hl : isCells S.get id with
    | false => rw [hl] at h; simp at h
    | true =>
      rw [hl] at h
      simp only [Option.some.injEq] at h
      subst h
      obtain ⟨ds, hds⟩ := isCells_some hl
      have hd' := hd
      simp only [RepD] at hd'
      rw [hds] at hd'
      obtain ⟨_, g, c, h1, rfl⟩ := hd'
      rw [hf]
      exact OpOK.same hp hd hb
  | bp id j off =>
    simp only [xNil] at h
    cases hl : isBuf S.get id with
    | false => rw [hl] at h; simp at h
    | true =>
      rw [hl] at h
      simp only [Option.some.injEq] at h
      subst h
      obtain ⟨e, xs, hds | ⟨_, _, _, hds⟩⟩ := isBuf_some hl
      all_goals
        have hd' := hd
        simp only [RepD] at hd'
        rw [hds] at hd'
        obtain ⟨_, _, g, c, h1, rfl⟩ := hd'
        rw [hf]
        exact OpOK.same hp hd hb
  | nilp =>
    simp only [xNil, Option.some.injEq] at h
    subst h
    cases hc
  | _ => simp [xNil] at h

theorem inB_iff {i : Int} {n : Nat} : inB i n = true ↔ 0 ≤ i ∧ i < (n : Int) := by simp [inB]

theorem run_indexS {t el : TypeId} {inf : TypeInfo} (hu : P.underlying t = some (.slice el)) (hi : P.info? el = some inf) (a : Addr) (n c : Nat) (k : IntKind) (i : Int) (h0 : 0 ≤ i) (h1 : i < (n : Int)) :
    (do pure (.value (← Instr.indexAt t (.slice (some a) n c) (.int k i))) : Sem Next).run P W = .ok (.value (.pointer (some (a.add (i.toNat * inf.size))))) W := by
  simp [Instr.indexAt, run_underlying hu, asIntOf, h0, h1, run_size hi]
theorem run_indexA {t el : TypeId} {inf : TypeInfo} {m : Nat} (hu : P.underlying t = some (.array m el)) (hi : P.info? el = some inf) (a : Addr) (k : IntKind) (i : Int) (h0 : 0 ≤ i) (h1 : i < (m : Int)) :
    (do pure (.value (← Instr.indexAt t (.pointer (some a)) (.int k i))) : Sem Next).run P W = .ok (.value (.pointer (some (a.add (i.toNat * inf.size))))) W := by
  simp [Instr.indexAt, run_underlying hu, asIntOf, h0, h1, run_size hi, Instr.sureAddr]

theorem headT_cells {f : Ty} {t : Ty} (h : headT f = some t) : t.isSt = false := by
  unfold headT at h
  split at h
  · split at h
    · cases h
    · simp only [Option.some.injEq] at h
      subst h
      assumption
  · cases h
theorem ty_cells1 {t : Ty} (h : t.isSt = false) : t.cells = 1 := by cases t <;> simp [Ty.isSt] at h <;> rfl
theorem runC_rep {cell : Addr → Option Value} {G : Nat → Prop} {t : Ty} (ht : t.isSt = false) : ∀ {n : Nat} {f : Ty} {x : f.T} {xs : List t.T} {g : Nat → Option Value}, runC t n f x = some xs → RepC cell G f x g → ∀ i, i < n → RepC cell G t (xs.getD i t.dflt) (fun j => g (i + j))
  | 0, _, _, _, _, _, _, i, hi => absurd hi (Nat.not_lt_zero _)
  | n + 1, .cons a b, x, xs, g, h, r, i, hi => by
    simp only [runC] at h
    cases h1 : castT t a x.1 with
    | none => rw [h1] at h; simp at h
    | some y =>
      cases h2 : runC t n b x.2 with
      | none => rw [h1, h2] at h; simp at h
      | some ys =>
        rw [h1, h2] at h
        simp only [Option.some.injEq] at h
        subst h
        unfold castT at h1
        split at h1
        · rename_i e
          subst e
          simp only [Option.some.injEq] at h1
          subst h1
          cases i with
          | zero => exact r.1.congr (fun j _ => by simp)
          | succ i =>
            have := runC_rep ht h2 r.2 i (by omega)
            refine RepC.congr (fun j _ => ?_) this
            show g (a.cells + (i + j)) = _
            rw [ty_cells1 ht]
            congr 1
            omega
        · cases h1
  | n + 1, .nil, _, _, _, h, _, _, _ => by simp [runC] at h
  | n + 1, .int _, _, _, _, h, _, _, _ => by simp [runC] at h
  | n + 1, .bool, _, _, _, h, _, _, _ => by simp [runC] at h
  | n + 1, .str, _, _, _, h, _, _, _ => by simp [runC] at h
  | n + 1, .lst _, _, _, _, h, _, _, _ => by simp [runC] at h
  | n + 1, .ptr _, _, _, _, h, _, _, _ => by simp [runC] at h
  | n + 1, .st _, _, _, _, h, _, _, _ => by simp [runC] at h

theorem indexAddr_ok (hp : Hp F B S γ W) {t : TypeId} {x ix : D} {v u : Value} {r : Res} (h : xIndexAddr P S.get t x ix = some r) (hc : r.c = true) (hx : RepD W.cell? (Frz F S γ W) S.get γ x v) (hix : RepD W.cell? (Frz F S γ W) S.get γ ix u) (hb : x.bnd B) :
    OpOK F B S γ W fid ((do pure (.value (← Instr.indexAt t v u)) : Sem Next).run P W) r := by
  cases ix with
  | fz tk i =>
    cases tk with
    | int k =>
      obtain ⟨rfl, _⟩ := of_int hix
      unfold xIndexAddr at h
      simp only at h
      cases hu : P.underlying t with
      | none => rw [hu] at h; simp at h
      | some q =>
        cases q with
        | slice el =>
          rw [hu] at h
          simp only at h
          cases hi : P.info? el with
          | none => rw [hi] at h; simp at h
          | some inf =>
            rw [hi] at h
            simp only at h
            cases x with
            | fz tx xs =>
              cases tx with
              | lst e =>
                simp only at h
                cases h1 : Nat.beq e.cells inf.size with
                | false => rw [h1] at h; simp at h
                | true =>
                  rw [h1] at h
                  simp only [Option.some.injEq] at h
                  subst h
                  have e1 := Nat.eq_of_beq_eq_true h1
                  simp only at hc
                  obtain ⟨i0, i1⟩ := inB_iff.1 hc
                  obtain ⟨a, c, rfl, k1, k2, k3⟩ := of_lst hx
                  have hlt : i.toNat < xs.length := by omega
                  obtain ⟨ad, rfl, h2, h3, h4⟩ := k3 (fun e => by rw [e] at hlt; simp at hlt)
                  have hrun : (do pure (.value (← Instr.indexAt t (.slice (some ad) xs.length c) (.int k i))) : Sem Next).run P W = .ok (.value (.pointer (some (ad.add (i.toNat * inf.size))))) W := run_indexS hu hi ad _ c k i i0 i1
                  rw [hrun]
                  refine OpOK.same hp ?_ trivial
                  simp only [RepD]
                  refine ⟨ad.add (i.toNat * e.cells), trivial, by rw [add_block]; exact h3, ?_, by rw [add_zero, e1]⟩
                  have hel : xs[i.toNat]? = some (rdL e xs i) := by
                    unfold rdL
                    rw [List.getD_eq_getElem?_getD, List.getElem?_eq_getElem hlt]; rfl
                  refine (h4 i.toNat _ hel).toChain.congr (fun j _ => ?_)
                  rw [add_add]
              | _ => simp at h
            | sf id =>
              simp only at h
              cases hg : S.get id with
              | none => rw [hg] at h; simp at h
              | some ob =>
                cases ob with
                | cells ds => rw [hg] at h; simp at h
                | arr q ys hh =>
                  rw [hg] at h
                  simp only at h
                  cases h1 : Nat.beq inf.size 1 with
                  | false => rw [h1] at h; simp at h
                  | true =>
                    rw [h1] at h
                    simp only [Option.some.injEq] at h
                    subst h
                    have e1 := Nat.eq_of_beq_eq_true h1
                    simp only at hc
                    obtain ⟨i0, i1⟩ := inB_iff.1 hc
                    have hlt : i.toNat < ys.length := by omega
                    simp only [RepD] at hx
                    rw [hg] at hx
                    obtain ⟨_, ⟨g, c, hg2, rfl⟩ | ⟨hg2, a, rfl⟩⟩ := hx
                    · have hrun : (do pure (.value (← Instr.indexAt t (.slice (some ⟨g, 0, none⟩) ys.length c) (.int k i))) : Sem Next).run P W = .ok (.value (.pointer (some (Addr.add ⟨g, 0, none⟩ (i.toNat * inf.size))))) W := run_indexS hu hi ⟨g, 0, none⟩ _ c k i i0 i1
                      rw [hrun]
                      refine OpOK.same hp ?_ hb
                      simp only [RepD]
                      rw [hg]
                      refine ⟨rfl, hlt, g, c, hg2, ?_⟩
                      rw [add_eq _ rfl, e1, Nat.mul_one, Nat.zero_add]
                    · exfalso
                      rcases hp.obs id _ hg with ⟨_, h2, _⟩ | ⟨g, cap, us, tt, bls, k1, _⟩
                      · subst h2
                        simp at hlt
                      · unfold hdG at hg2
                        rw [k1] at hg2
                        simp at hg2
                | opt _ _ => rw [hg] at h; simp at h
                | mp _ _ _ _ => rw [hg] at h; simp at h
                | buf e xs =>
                  rw [hg] at h
                  simp only at h
                  cases h1 : Nat.beq e.cells inf.size with
                  | false => rw [h1] at h; simp at h
                  | true =>
                    rw [h1] at h
                    simp only [Option.some.injEq] at h
                    subst h
                    have e1 := Nat.eq_of_beq_eq_true h1
                    simp only at hc
                    obtain ⟨i0, i1⟩ := inB_iff.1 hc
                    have hlt : i.toNat < xs.length := by omega
                    simp only [RepD] at hx
                    rw [hg] at hx
                    obtain ⟨_, hx⟩ := hx
                    rcases hx with ⟨g, c, r1, rfl⟩ | ⟨r1, a0, rfl⟩
                    · have hrun : (do pure (.value (← Instr.indexAt t (.slice (some ⟨g, 0, none⟩) xs.length c) (.int k i))) : Sem Next).run P W = .ok (.value (.pointer (some ⟨g, i.toNat * e.cells, none⟩))) W := by
                        have := run_indexS (W := W) hu hi ⟨g, 0, none⟩ xs.length c k i i0 i1
                        rwa [add_eq _ rfl, ← e1, Nat.zero_add] at this
                      rw [hrun]
                      refine OpOK.same hp ?_ hb
                      simp only [RepD]
                      rw [hg]
                      exact ⟨rfl, hlt, g, c, r1, rfl⟩
                    · rcases hp.obs id _ hg with ⟨q1, rfl⟩ | ⟨g', c', vs, tt, q1, _⟩
                      · simp at hlt
                      · first | exact (hd_ne r1 q1).elim | exact (hd_ne' r1 q1).elim
                | bh e xs i9 o9 d9 =>
                  rw [hg] at h
                  simp only at h
                  cases h1 : Nat.beq e.cells inf.size with
                  | false => rw [h1] at h; simp at h
                  | true =>
                    rw [h1] at h
                    simp only [Option.some.injEq] at h
                    subst h
                    have e1 := Nat.eq_of_beq_eq_true h1
                    simp only at hc
                    obtain ⟨i0, i1⟩ := inB_iff.1 hc
                    have hlt : i.toNat < xs.length := by omega
                    simp only [RepD] at hx
                    rw [hg] at hx
                    obtain ⟨_, hx⟩ := hx
                    rcases hx with ⟨g, c, r1, rfl⟩ | ⟨r1, a0, rfl⟩
                    · have hrun : (do pure (.value (← Instr.indexAt t (.slice (some ⟨g, 0, none⟩) xs.length c) (.int k i))) : Sem Next).run P W = .ok (.value (.pointer (some ⟨g, i.toNat * e.cells, none⟩))) W := by
                        have := run_indexS (W := W) hu hi ⟨g, 0, none⟩ xs.length c k i i0 i1
                        rwa [add_eq _ rfl, ← e1, Nat.zero_add] at this
                      rw [hrun]
                      refine OpOK.same hp ?_ hb
                      simp only [RepD]
                      rw [hg]
                      exact ⟨rfl, hlt, g, c, r1, rfl⟩
                    · obtain ⟨g', c', vs, tt, v', u', q1, _⟩ := hp.obs id _ hg
                      first | exact (hd_ne r1 q1).elim | exact (hd_ne' r1 q1).elim
            | _ => simp at h
        | array n el =>
          rw [hu] at h
          simp only at h
          cases hi : P.info? el with
          | none => rw [hi] at h; simp at h
          | some inf =>
            rw [hi] at h
            cases x with
            | ptr id off =>
              simp only at h
              cases hl0 : (isCells S.get id && Nat.beq inf.size 1 && Nat.blt off 65536) with
              | false => rw [hl0] at h; simp at h
              | true =>
                rw [hl0] at h
                simp only [Option.some.injEq] at h
                subst h
                rw [Bool.and_eq_true, Bool.and_eq_true] at hl0
                have hl := hl0.1.1
                have hsz := Nat.eq_of_beq_eq_true hl0.1.2
                have hoff : off < 65536 := by
                  have := hl0.2
                  have : off ≤ 65535 := by simpa [Nat.blt] using this
                  omega
                simp only at hc
                obtain ⟨i0, i1⟩ := inB_iff.1 hc
                obtain ⟨ds, hds⟩ := isCells_some hl
                simp only [RepD] at hx
                rw [hds] at hx
                obtain ⟨_, g, c, h1, rfl⟩ := hx
                have hrun : (do pure (.value (← Instr.indexAt t (.pointer (some ⟨g, off, none⟩)) (.int k i))) : Sem Next).run P W = .ok (.value (.pointer (some ⟨g, off + i.toNat * inf.size, none⟩))) W := by
                  have := run_indexA (W := W) hu hi ⟨g, off, none⟩ k i i0 i1
                  rwa [add_eq _ rfl] at this
                rw [hrun]
                refine OpOK.same hp ?_ hb
                simp only [RepD]
                rw [hds]
                refine ⟨rfl, by omega, g, c, h1, ?_⟩
                rw [hsz, Nat.mul_one, show (off + n * 65536) % 65536 = off from by omega]
            | fp fs y off =>
              simp only at h
              cases hs : Nat.beq inf.size 1 with
              | false => rw [hs] at h; simp at h
              | true =>
              rw [hs] at h
              cases hdc : dropC fs y off with
              | none => rw [hdc] at h; simp at h
              | some z =>
              rw [hdc] at h
              simp only at h
              cases hht : headT z.t with
              | none => rw [hht] at h; simp at h
              | some t0 =>
              rw [hht] at h
              simp only at h
              cases hrc : runC t0 n z.t z.x with
              | none => rw [hrc] at h; simp at h
              | some xs =>
              rw [hrc] at h
              simp only [Option.some.injEq] at h
              subst h
              simp only at hc
              obtain ⟨i0, i1⟩ := inB_iff.1 hc
              simp only [RepD] at hx
              obtain ⟨ad, h1, h2, h3, rfl⟩ := hx
              have hsz := Nat.eq_of_beq_eq_true hs
              have hcells := runC_rep (headT_cells hht) hrc (dropC_rep hdc h3)
              have hone := hcells i.toNat (by omega)
              have hrun : (do pure (.value (← Instr.indexAt t (.pointer (some (ad.add off))) (.int k i))) : Sem Next).run P W = .ok (.value (.pointer (some (ad.add (off + i.toNat * inf.size))))) W := by
                have := run_indexA (W := W) hu hi (ad.add off) k i i0 i1
                have e2 : (ad.add off).add (i.toNat * inf.size) = ad.add (off + i.toNat * inf.size) := by
                  rw [add_add]
                rwa [e2] at this
              rw [hrun]
              refine OpOK.same hp ?_ trivial
              simp only [RepD]
              refine ⟨ad.add (off + i.toNat), trivial, by rw [add_block]; exact h2, ⟨hone.congr (fun j _ => ?_), trivial⟩, by rw [add_zero, hsz, Nat.mul_one]⟩
              rw [add_add]
              congr 2
              omega
            | _ => simp at h
        | _ => rw [hu] at h; simp at h
    | _ => simp [xIndexAddr] at h
  | _ => simp [xIndexAddr] at h
end
end Go.XD


/- Pieces of slices and texts; make; arithmetic. -/
namespace Go.XD

section
variable {P : Program} {F : Fm} {B : Nat → Prop} {S : St} {γ : Gam} {W : World} {fid : Nat}

/-- A piece of a frozen row. -/
theorem piece_rep {cell : Addr → Option Value} {G : Nat → Prop} {get : Nat → Option Ob} {γ : Gam} {e : Ty} {xs : List e.T} {a : Option Addr} {c l h : Nat} (hl : l ≤ h) (hh : h ≤ xs.length) (k1 : xs.length ≤ c) (k2 : xs.length ≤ 140737488355328)
    (k3 : xs ≠ [] → ∃ ad : Addr, a = some ad ∧ okA ad ∧ G ad.block ∧ ∀ (i : Nat) (x : e.T), xs[i]? = some x → RepC cell G e x (fun j => cell (ad.add (i * e.cells + j)))) :
    RepD cell G get γ (.fz (.lst e) ((xs.take h).drop l)) (sliced a l h c e.cells) := by
  have hlen : ((xs.take h).drop l).length = h - l := by simp; omega
  unfold sliced
  rw [← hlen]
  refine rep_lst (by omega) (by omega) (fun hne => ?_)
  have hpos : 0 < h - l := by rw [← hlen]; exact List.length_pos_iff.2 hne
  rw [if_neg (by omega)]
  obtain ⟨ad, rfl, h2, h3, h4⟩ := k3 (fun e => by rw [e] at hh; simp at hh; omega)
  refine ⟨ad.add (l * e.cells), rfl, trivial, by rw [add_block]; exact h3, fun i x hx => ?_⟩
  rw [List.getElem?_drop] at hx
  have hlt : l + i < h := by
    have := (List.getElem?_eq_some_iff.1 hx).1
    simp at this; omega
  rw [List.getElem?_take_of_lt hlt] at hx
  refine (h4 (l + i) x hx).congr (fun j _ => ?_)
  have e2 : (ad.add (l * e.cells)).add (i * e.cells + j) = ad.add ((l + i) * e.cells + j) := by
    rw [add_add, Nat.add_mul]
    simp [Nat.add_assoc]
  rw [e2]

theorem run_sl {t el : TypeId} {inf : TypeInfo} (hu : P.underlying t = some (.slice el)) (hi : P.info? el = some inf) (a : Option Addr) (n c : Nat) (lo hi' : Option Value) (l h : Nat)
    (hb : (Instr.slice t (.slice a n c) lo hi' none).run P W = ((sizeOf (P.elem t)).run P W).andThen fun s w => .ok (sliced a l h c s) w) :
    (do pure (.value (← Instr.sliceAt t (.slice a n c) lo hi' none)) : Sem Next).run P W = .ok (.value (sliced a l h c inf.size)) W := by
  have he : P.elem t = el := by simp [Program.elem, hu]
  have h1 : (Instr.sliceAt t (.slice a n c) lo hi' none).run P W = .ok (sliced a l h c inf.size) W := by
    rw [run_sliceAt_slice W t _ _ _ _ (by rw [he]; exact hu), hb, he, run_size hi]
    rfl
  simp only [Sem.run_bind, h1, Result.andThen_ok, Sem.run_pure]

theorem slice_ok (hp : Hp F B S γ W) (hf : ¬ B fid) {t : TypeId} {x : D} {lo hi : Option D} {v : Value} {vlo vhi : Option Value} {r : Res} (h : xSlice P S.get fid t x lo hi = some r) (hc : r.c = true)
    (hx : RepD W.cell? (Frz F S γ W) S.get γ x v) (hlo : ∀ d, lo = some d → ∃ u, vlo = some u ∧ RepD W.cell? (Frz F S γ W) S.get γ d u) (hlo0 : lo = none → vlo = none)
    (hhi : ∀ d, hi = some d → ∃ u, vhi = some u ∧ RepD W.cell? (Frz F S γ W) S.get γ d u) (hhi0 : hi = none → vhi = none) :
    OpOK F B S γ W fid ((do pure (.value (← Instr.sliceAt t v vlo vhi none)) : Sem Next).run P W) r := by
  unfold xSlice at h
  cases hu : P.underlying t with
  | none => rw [hu] at h; simp at h
  | some q =>
    cases q with
    | string =>
      rw [hu] at h
      cases x with
      | fz tx s =>
        cases tx with
        | str =>
          simp only at h
          obtain ⟨rfl, hs⟩ := of_str hx
          have fin : ∀ (l n : Nat), (Instr.slice t (.string s) vlo vhi none).run P W = .ok (.string (s.extract l n)) W → ∀ b, OpOK F B S γ W fid ((do pure (.value (← Instr.sliceAt t (.string s) vlo vhi none)) : Sem Next).run P W) ⟨b, .fz .str (s.extract l n), []⟩ := by
            intro l n hr b
            have : (do pure (.value (← Instr.sliceAt t (.string s) vlo vhi none)) : Sem Next).run P W = .ok (.value (.string (s.extract l n))) W := by
              simp only [Sem.run_bind, run_sliceAt_string W t _ _ _ _ hu, hr, Result.andThen_ok, Sem.run_pure]
            rw [this]
            refine OpOK.same hp (rep_str ?_) trivial
            have : (s.extract l n).size ≤ s.size := by simp [ByteArray.size_extract]; omega
            omega
          cases lo with
          | none =>
            have := hlo0 rfl
            subst this
            cases hi with
            | none =>
              have := hhi0 rfl
              subst this
              simp only [Option.some.injEq] at h
              subst h
              have e : s.extract 0 s.size = s := by simp
              have := fin 0 s.size (by simp [Instr.slice, run_underlying hu, Instr.sliceBounds]) true
              rwa [e] at this
            | some d =>
              obtain ⟨u, rfl, hd⟩ := hhi d rfl
              cases d with
              | fz td n =>
                cases td with
                | int k =>
                  change Int at n
                  simp only [Option.some.injEq] at h
                  subst h
                  obtain ⟨rfl, _⟩ := of_int hd
                  simp only [Bool.and_eq_true, decide_eq_true_eq] at hc
                  exact fin 0 n.toNat (by simp [Instr.slice, run_underlying hu, Instr.sliceBounds, run_sliceBound, hc.1, hc.2]) _
                | _ => simp at h
              | _ => simp at h
          | some dl =>
            obtain ⟨ul, rfl, hdl⟩ := hlo dl rfl
            cases dl with
            | fz td l =>
              cases td with
              | int kl =>
                change Int at l
                obtain ⟨rfl, _⟩ := of_int hdl
                cases hi with
                | none =>
                  have := hhi0 rfl
                  subst this
                  simp only [Option.some.injEq] at h
                  subst h
                  simp only [Bool.and_eq_true, decide_eq_true_eq] at hc
                  exact fin l.toNat s.size (by simp [Instr.slice, run_underlying hu, Instr.sliceBounds, run_sliceBound, hc.1, hc.2]) _
                | some d =>
                  obtain ⟨u, rfl, hd⟩ := hhi d rfl
                  cases d with
                  | fz td n =>
                    cases td with
                    | int k =>
                      change Int at n
                      simp only [Option.some.injEq] at h
                      subst h
                      obtain ⟨rfl, _⟩ := of_int hd
                      simp only [Bool.and_eq_true, decide_eq_true_eq] at hc
                      have h0 : (0 : Int) ≤ n := Int.le_trans hc.1.1 hc.1.2
                      have e1 : ((Int.toNat n : Nat) : Int) = n := Int.toNat_of_nonneg h0
                      exact fin l.toNat n.toNat (by simp [Instr.slice, run_underlying hu, Instr.sliceBounds, run_sliceBound, hc.1.1, hc.1.2, hc.2, h0, e1]) _
                    | _ => simp at h
                  | _ => simp at h
              | _ => simp at h
            | _ => simp at h
        | _ => simp at h
      | _ => simp at h
    | slice el =>
      rw [hu] at h
      have he : P.elem t = el := by simp [Program.elem, hu]
      have hu2 : P.underlying t = some (.slice (P.elem t)) := by rw [he]; exact hu
      cases x with
      | fz tx xs =>
        cases tx with
        | lst e =>
          simp only at h
          cases hi2 : P.info? el with
          | none => rw [hi2] at h; simp at h
          | some inf =>
            rw [hi2] at h
            simp only at h
            cases h1 : Nat.beq e.cells inf.size with
            | false => rw [h1] at h; simp at h
            | true =>
              rw [h1] at h
              simp only at h
              have e1 := Nat.eq_of_beq_eq_true h1
              obtain ⟨a, c, rfl, k1, k2, k3⟩ := of_lst hx
              have fin : ∀ (l n : Nat), l ≤ n → n ≤ xs.length → (Instr.slice t (.slice a xs.length c) vlo vhi none).run P W = ((sizeOf (P.elem t)).run P W).andThen (fun s w => .ok (sliced a l n c s) w) →
                  ∀ b, OpOK F B S γ W fid ((do pure (.value (← Instr.sliceAt t (.slice a xs.length c) vlo vhi none)) : Sem Next).run P W) ⟨b, .fz (.lst e) ((xs.take n).drop l), []⟩ := by
                intro l n hln hn hr b
                rw [run_sl hu hi2 a _ c vlo vhi l n hr, ← e1]
                exact OpOK.same hp (piece_rep hln hn k1 k2 k3) trivial
              cases lo with
              | none =>
                have := hlo0 rfl
                subst this
                cases hi with
                | none => simp at h
                | some d =>
                  obtain ⟨u, rfl, hd⟩ := hhi d rfl
                  cases d with
                  | fz td n =>
                    cases td with
                    | int k =>
                      change Int at n
                      simp only [Option.some.injEq] at h
                      subst h
                      obtain ⟨rfl, _⟩ := of_int hd
                      simp only [Bool.and_eq_true, decide_eq_true_eq] at hc
                      have h0 : (0 : Int) ≤ n := hc.1
                      have h2 : n ≤ (xs.length : Int) := hc.2
                      have := fin 0 n.toNat (by omega) (by omega) (run_slice_h W t a _ c hu2 k n h0 (by omega)) (decide ((0 : Int) ≤ n) && decide (n ≤ (xs.length : Int)))
                      simpa using this
                    | _ => simp at h
                  | _ => simp at h
              | some dl =>
                obtain ⟨ul, rfl, hdl⟩ := hlo dl rfl
                cases dl with
                | fz td l =>
                  cases td with
                  | int kl =>
                    change Int at l
                    obtain ⟨rfl, _⟩ := of_int hdl
                    cases hi with
                    | none =>
                      have := hhi0 rfl
                      subst this
                      simp only [Option.some.injEq] at h
                      subst h
                      simp only [Bool.and_eq_true, decide_eq_true_eq] at hc
                      have h0 : (0 : Int) ≤ l := hc.1
                      have h2 : l ≤ (xs.length : Int) := hc.2
                      have := fin l.toNat xs.length (by omega) (Nat.le_refl _) (run_slice_l W t a _ c hu2 kl l h0 h2) (decide ((0 : Int) ≤ l) && decide (l ≤ (xs.length : Int)))
                      rwa [List.take_length] at this
                    | some d =>
                      obtain ⟨u, rfl, hd⟩ := hhi d rfl
                      cases d with
                      | fz td n =>
                        cases td with
                        | int k =>
                          change Int at n
                          simp only [Option.some.injEq] at h
                          subst h
                          obtain ⟨rfl, _⟩ := of_int hd
                          simp only [Bool.and_eq_true, decide_eq_true_eq] at hc
                          have h0 : (0 : Int) ≤ l := hc.1.1
                          have h1' : l ≤ n := hc.1.2
                          have h2 : n ≤ (xs.length : Int) := hc.2
                          exact fin l.toNat n.toNat (by omega) (by omega) (run_slice_lh W t a _ c hu2 kl k l n h0 h1' (by omega)) _
                        | _ => simp at h
                      | _ => simp at h
                  | _ => simp at h
                | _ => simp at h
        | _ => simp at h
      | sf id =>
        simp only at h
        cases hi2 : P.info? el with
        | none => rw [hi2] at h; simp at h
        | some inf =>
        rw [hi2] at h
        cases hg : S.get id with
        | none => rw [hg] at h; simp at h
        | some ob =>
          cases ob with
          | cells ds => rw [hg] at h; simp at h
          | arr _ _ _ => rw [hg] at h; simp at h
          | opt _ _ => rw [hg] at h; simp at h
          | mp _ _ _ _ => rw [hg] at h; simp at h
          | bh _ _ _ _ _ => rw [hg] at h; simp at h
          | buf e xs =>
            rw [hg] at h
            cases lo with
            | some _ => simp at h
            | none =>
              have := hlo0 rfl
              subst this
              cases hi with
              | none => simp at h
              | some d =>
                obtain ⟨u, rfl, hd⟩ := hhi d rfl
                cases d with
                | fz td n =>
                  cases td with
                  | int k =>
                    change Int at n
                    simp only [Option.some.injEq] at h
                    subst h
                    obtain ⟨rfl, _⟩ := of_int hd
                    simp only [Bool.and_eq_true, decide_eq_true_eq] at hc
                    have h0 : (0 : Int) ≤ n := hc.1
                    have h2 : n ≤ (xs.length : Int) := hc.2
                    have hgetf : St.get ⟨S.nx, [(fid, some (Ob.buf e (xs.take n.toNat))), (id, none)] ++ S.m⟩ fid = some (.buf e (xs.take n.toNat)) := by
                      rw [List.cons_append, get_cons, if_pos rfl]
                    have hlen : (xs.take n.toNat).length = n.toNat := by simp; omega
                    simp only [RepD] at hx
                    rw [hg] at hx
                    obtain ⟨_, hx⟩ := hx
                    have hrun : ∀ (a : Option Addr) (c : Nat), xs.length ≤ c → (Instr.sliceAt t (.slice a xs.length c) none (some (.int k n)) none).run P W = ((sizeOf el).run P W).andThen (fun s w => .ok (sliced a 0 n.toNat c s) w) := by
                      intro a c hcc
                      rw [run_sliceAt_slice W t _ _ _ _ hu2, run_slice_h W t a _ c hu2 k n h0 (by omega), he]
                    have hs := run_size hi2 W
                    rcases hx with ⟨g, c, r1, rfl⟩ | ⟨r1, a0, rfl⟩
                    · rcases hp.obs id _ hg with ⟨q1, _⟩ | ⟨g', c', vs, tt, q1, q2, q3, q4, q5, q6⟩
                      · first | exact (hd_ne r1 q1).elim | exact (hd_ne' r1 q1).elim
                      · have q1h := hd_one q1
                        rw [r1] at q1h
                        simp only [Option.some.injEq, Prod.mk.injEq] at q1h
                        obtain ⟨rfl, rfl⟩ := q1h
                        have hr : (do pure (.value (← Instr.sliceAt t (.slice (some ⟨g, 0, none⟩) xs.length c) none (some (.int k n)) none)) : Sem Next).run P W = .ok (.value (.slice (some ⟨g, 0, none⟩) (xs.take n.toNat).length c)) W := by
                          simp only [Sem.run_bind, hrun _ _ q3, hs, Result.andThen_ok, Sem.run_pure, sliced, hlen]
                          congr 2
                          split <;> simp [add_eq]
                        rw [hr]
                        obtain ⟨k1, k2⟩ := hp.move (W' := W) hf S.nx (e := e) (xs := xs.take n.toNat) hg q1 q2 (fun _ _ => rfl) rfl rfl rfl rfl ⟨by omega, q4, by omega, fun i x hx => by
                          have hlt : i < n.toNat := by
                            have := (List.getElem?_eq_some_iff.1 hx).1
                            omega
                          rw [List.getElem?_take_of_lt hlt] at hx
                          exact q6 i x hx⟩
                        exact bufAt_ok hp (S' := S) k1 k2 rfl hgetf (.inl ⟨_, _, updG_hd _ _ _, rfl⟩)
                    · rcases hp.obs id _ hg with ⟨q1, rfl⟩ | ⟨g', c', vs, tt, q1, _⟩
                      · simp only [List.length_nil] at h2
                        have hn0 : n.toNat = 0 := by omega
                        have hr : (do pure (.value (← Instr.sliceAt t (.slice a0 0 0) none (some (.int k n)) none)) : Sem Next).run P W = .ok (.value (.slice a0 0 0)) W := by
                          have := hrun a0 0 (by simp)
                          simp only [List.length_nil] at this
                          simp only [Sem.run_bind, this, hs, Result.andThen_ok, Sem.run_pure, sliced, hn0]
                          simp
                        rw [hr]
                        have hsub := hp.sub ⟨S.nx, (id, none) :: S.m⟩ (fun k ob h => by
                          rw [get_cons] at h
                          split at h
                          · cases h
                          · exact h)
                        obtain ⟨k1, k2⟩ := hsub.2.allocNone hf S.nx e
                        simp only [List.take_nil] at hgetf ⊢
                        exact bufAt_ok hp (S' := S) (hsub.1.trans k1) k2 rfl hgetf (.inr ⟨updG_hd0 _ _, a0, rfl⟩)
                      · first | exact (hd_ne r1 q1).elim | exact (hd_ne' r1 q1).elim
                  | _ => simp at h
                | _ => simp at h
      | _ => simp at h
    | array n el =>
      rw [hu] at h
      cases x with
      | ptr id off =>
        simp only at h
        split at h
        · rename_i inf ds kl l hi2 hg
          change Int at l
          have hhi' := hhi0 rfl
          subst hhi'
          obtain ⟨ul, rfl, hdl⟩ := hlo _ rfl
          obtain ⟨rfl, _⟩ := of_int hdl
          split at h
          · rename_i t1 y1 r1 hdr
            split at h
            · rename_i xs h1 hrn
              simp only [Option.some.injEq] at h
              subst h
              simp only [Bool.and_eq_true, Bool.not_eq_true'] at h1
              obtain ⟨⟨⟨h1, h1b⟩, h1c⟩, h1d⟩ := h1
              have e1 := Nat.eq_of_beq_eq_true h1
              have e1b := Nat.eq_of_beq_eq_true h1b
              have e1d := Nat.le_of_ble_eq_true h1d
              simp only [Bool.and_eq_true, decide_eq_true_eq] at hc
              simp only [RepD] at hx
              rw [hg] at hx
              obtain ⟨_, g, c, q1, rfl⟩ := hx
              obtain ⟨g', c', vs, ty, q2, q3, q4⟩ := hp.obs id _ hg
              have q2h := hd_one q2
              rw [q1] at q2h
              simp only [Option.some.injEq, Prod.mk.injEq] at q2h
              obtain ⟨rfl, rfl⟩ := q2h
              have q5 := q4.drop off
              rw [hdr] at q5
              obtain ⟨k1, _, k3⟩ := runN_rep hrn q5
              have hlen : (xs.drop l.toNat).length = n - l.toNat := by simp [k1]
              have hrun : (Instr.sliceAt t (.pointer (some ⟨g, off, none⟩)) (some (.int kl l)) none none).run P W = .ok (.slice (some (if n = l.toNat then ⟨g, off, none⟩ else (⟨g, off, none⟩ : Addr).add (l.toNat * inf.size))) (n - l.toNat) (n - l.toNat)) W := by
                simp [Instr.sliceAt, run_underlying hu, Instr.sureAddr, Instr.sliceBounds, run_sliceBound, hc.1, hc.2, run_size hi2]
              have hr : (do pure (.value (← Instr.sliceAt t (.pointer (some ⟨g, off, none⟩)) (some (.int kl l)) none none)) : Sem Next).run P W = .ok (.value (.slice (some (if n = l.toNat then ⟨g, off, none⟩ else (⟨g, off, none⟩ : Addr).add (l.toNat * inf.size))) (n - l.toNat) (n - l.toNat))) W := by
                simp only [Sem.run_bind, hrun, Result.andThen_ok, Sem.run_pure]
              rw [hr]
              have hgt := hp.trk g ⟨id, _, c, hg, hd_mem q1⟩
              have hsub := hp.sub ⟨S.nx, (id, none) :: S.m⟩ (fun k ob h => by
                rw [get_cons] at h
                split at h
                · cases h
                · exact h)
              have hfz : Frz F ⟨S.nx, (id, none) :: S.m⟩ γ W g := by
                refine ⟨.inr hgt.1, hgt.2, ?_⟩
                rintro ⟨id', ob', c', h1, h2⟩
                rw [get_cons] at h1
                split at h1
                · cases h1
                · rename_i hne
                  exact hne (hp.inj id id' _ ob' g c c' hg h1 (hd_mem q1) h2)
              refine ⟨_, W, γ, rfl, .inl ⟨_, rfl, ?_⟩, hsub.1, hsub.2.mono (fun _ h => .inl h), trivial⟩
              rw [← hlen]
              refine rep_lst (Nat.le_refl _) (by omega) (fun hne => ?_)
              have hpos : 0 < n - l.toNat := by rw [← hlen]; exact List.length_pos_iff.2 hne
              rw [if_neg (by omega)]
              refine ⟨_, rfl, trivial, by rw [add_block]; exact hfz, fun i x hx => ?_⟩
              rw [List.getElem?_drop] at hx
              have hlt : l.toNat + i < n := by
                have := (List.getElem?_eq_some_iff.1 hx).1
                omega
              obtain ⟨v, w1, w2⟩ := k3 (l.toNat + i) hlt
              have hxe : xs.getD (l.toNat + i) t1.dflt = x := by
                rw [List.getD_eq_getElem?_getD, hx]
                rfl
              rw [hxe] at w2
              have w3 := hsub.1.repD (d := .fz t1 x) trivial w2
              simp only [RepD, RepV] at w3
              rw [h1c] at w3
              simp only [Bool.false_eq_true, if_false] at w3
              refine w3.congr (fun j hj => ?_)
              have hj0 : j = 0 := by omega
              subst hj0
              rw [if_pos rfl, add_add, add_eq _ rfl, e1, Nat.mul_one, e1b, Nat.mul_one]
              simp only [World.cell?, q3]
              have : vs[off + (l.toNat + i)]? = some v := by
                rw [List.getElem?_drop] at w1
                simpa using w1
              simp only [Nat.add_zero]
              rw [← Nat.add_assoc] at this
              simpa [Nat.add_assoc] using this.symm
            · cases h
          · cases h
        · cases h
      | _ => simp at h
    | _ => rw [hu] at h; cases x <;> simp at h
end
end Go.XD


/- make, arithmetic, and all operations together. -/
namespace Go.XD

section
variable {P : Program} {F : Fm} {B : Nat → Prop} {S : St} {γ : Gam} {W : World} {fid : Nat}

theorem made_get (z : Array Value) (n k : Nat) (hk : k < n) (hz : 0 < z.size) : (madeCells z n)[k]? = z[k % z.size]? := by
  unfold madeCells
  have : k % z.size < z.size := Nat.mod_lt _ hz
  simp [hk, this]

theorem zeroT_rep {el : TypeId} {e : Ty} {x : e.T} (hp : Hp F B S γ W) (h : zeroT P el e = some x) : ∃ i z, P.info? el = some i ∧ i.zero = some z ∧ z.cells.size = i.size ∧ RepC W.cell? (Frz F S γ W) e x (fun j => z.cells[j]?) := by
  unfold zeroT at h
  cases hz : zeroD P el with
  | none => rw [hz] at h; simp at h
  | some ds =>
    obtain ⟨i, z, h1, h2, h3, _, h5⟩ := zeroD_rep (cell := W.cell?) (G := Frz F S γ W) (get := S.get) (γ := γ) hz B
    refine ⟨i, z, h1, h2, h5, ?_⟩
    rw [hz] at h
    cases hs : e.isSt with
    | true =>
      rw [hs] at h
      simp only at h
      have hr : RepD W.cell? (Frz F S γ W) S.get γ (.ag ds) (.agg z.cells) := by
        simp only [RepD]
        exact ⟨z.cells.toList, by simp, h3⟩
      have := conv_rep (look := fun _ => none) (fun _ _ h => by cases h) hp (fun _ h => h) h hr (fun id _ hn => absurd rfl hn)
      exact this.cells.2
    | false =>
      rw [hs] at h
      cases ds with
      | nil => simp at h
      | cons d r =>
        cases r with
        | cons _ _ => simp at h
        | nil =>
          simp only at h
          simp only [RepDs] at h3
          obtain ⟨v, q, hq, hd, rfl⟩ := h3
          have := conv_rep (look := fun _ => none) (fun _ _ h => by cases h) hp (fun _ h => h) h hd (fun id _ hn => absurd rfl hn)
          have hz1 : z.cells[0]? = some v := by
            have : z.cells.toList[0]? = some v := by rw [hq]; rfl
            simpa using this
          exact (RepC.atLeaf hs hz1).2 this

theorem make_ok (hp : Hp F B S γ W) (hf : ¬ B fid) {t : TypeId} {l c : D} {v u : Value} {r : Res} (h : xMake P fid t l c = some r) (hc : r.c = true) (hl : RepD W.cell? (Frz F S γ W) S.get γ l v) (hcc : RepD W.cell? (Frz F S γ W) S.get γ c u) :
    OpOK F B S γ W fid ((do pure (.value (← Instr.makeSlice t v u)) : Sem Next).run P W) r := by
  unfold xMake at h
  cases hu : P.underlying t with
  | none => rw [hu] at h; simp at h
  | some q =>
    cases q with
    | slice el =>
      rw [hu] at h
      cases l with
      | fz tl n =>
        cases tl with
        | int kl =>
          change Int at n
          cases kl with
          | i64 =>
            cases c with
            | fz tc m =>
              cases tc with
              | int kc =>
                change Int at m
                cases kc with
                | i64 =>
                  simp only at h
                  obtain ⟨rfl, _⟩ := of_int hl
                  obtain ⟨rfl, _⟩ := of_int hcc
                  cases hi : P.info? el with
                  | none => rw [hi] at h; simp at h
                  | some inf =>
                    cases ht : ty P el with
                    | none => rw [hi, ht] at h; simp at h
                    | some e =>
                      rw [hi, ht] at h
                      simp only at h
                      cases h1 : (Nat.beq e.cells inf.size && Nat.ble 1 inf.size) with
                      | false => rw [h1] at h; simp at h
                      | true =>
                        cases h2 : zeroT P el e with
                        | none => rw [h1, h2] at h; simp at h
                        | some x =>
                          rw [h1, h2] at h
                          simp only [Option.some.injEq] at h
                          subst h
                          rw [Bool.and_eq_true] at h1
                          have e1 := Nat.eq_of_beq_eq_true h1.1
                          have hpos := Nat.le_of_ble_eq_true h1.2
                          simp only [Bool.and_eq_true, decide_eq_true_eq] at hc
                          obtain ⟨⟨c0, c1⟩, c2⟩ := hc
                          obtain ⟨i', z, q1, q2, q3, q4⟩ := zeroT_rep hp h2
                          rw [hi] at q1
                          simp only [Option.some.injEq] at q1
                          subst q1
                          have hm0 : 0 ≤ m := Int.le_trans c0 c1
                          obtain ⟨M, rfl⟩ := Int.eq_ofNat_of_zero_le hm0
                          obtain ⟨N, rfl⟩ := Int.eq_ofNat_of_zero_le c0
                          have c1n : N ≤ M := Int.ofNat_le.mp c1
                          have c2' : M * (inf.bytes + inf.size + 1) ≤ 35184372088832 := by
                            have c2n : ((M * (inf.bytes + inf.size + 1) : Nat) : Int) ≤ ((35184372088832 : Nat) : Int) := by
                              rw [Int.natCast_mul]
                              exact c2
                            exact Int.ofNat_le.mp c2n
                          have b1 : M * inf.bytes ≤ 35184372088832 := Nat.le_trans (Nat.mul_le_mul_left _ (by omega)) c2'
                          have b2 : M ≤ 35184372088832 := Nat.le_trans (Nat.le_mul_of_pos_right _ (by omega)) c2'
                          have hrun := run_make (P := P) W t el inf z hu hi q2 .i64 .i64 (N : Int) (M : Int) c0 c1 (by rw [← Int.natCast_mul, Nat.mul_comm]; omega) (by omega)
                          simp only [Int.toNat_natCast] at hrun
                          have hrun' : (do pure (.value (← Instr.makeSlice t (.int .i64 (N : Int)) (.int .i64 (M : Int)))) : Sem Next).run P W = .ok (.value (.slice (some ⟨W.heap.size, 0, none⟩) (List.replicate N x).length M)) (W.alloc (.cells (madeCells z.cells (M * inf.size)) el)) := by
                            simp only [Sem.run_bind, hrun, Result.andThen_ok, Sem.run_pure, List.length_replicate]
                          rw [hrun']
                          simp only [Int.toNat_natCast]
                          refine newBuf_ok hp hf el M (W.alloc (.cells (madeCells z.cells (M * inf.size)) el)) rfl rfl rfl rfl (by simp; omega) (by rw [size_madeCells, e1]; exact Nat.le_refl _) (by simp; omega) (fun i y hy => ?_) _
                          have hlt : i < N := by
                            have := (List.getElem?_eq_some_iff.1 hy).1
                            simpa using this
                          obtain rfl : y = x := by
                            rw [List.getElem?_replicate, if_pos hlt] at hy
                            simpa using hy.symm
                          refine q4.congr (fun j hj => ?_)
                          have hmul : (i + 1) * inf.size ≤ M * inf.size := Nat.mul_le_mul_right _ (by omega)
                          rw [Nat.add_mul, Nat.one_mul] at hmul
                          rw [e1] at hj ⊢
                          show z.cells[j]? = (madeCells z.cells (M * inf.size))[i * inf.size + j]?
                          rw [made_get _ _ _ (by omega) (by omega), q3, Nat.mul_comm, Nat.mul_add_mod, Nat.mod_eq_of_lt hj]
                | _ => simp at h
              | _ => simp at h
            | _ => simp at h
          | _ => simp at h
        | _ => simp at h
      | _ => simp at h
    | _ => rw [hu] at h; simp at h

/-! ### Arithmetic -/
theorem tmod_self {a b : Int} (h : 0 ≤ a) : 0 ≤ a.tmod b ∧ a.tmod b ≤ a := by
  obtain ⟨m, rfl⟩ := Int.eq_ofNat_of_zero_le h
  rcases Int.le_total 0 b with hb | hb
  · obtain ⟨n, rfl⟩ := Int.eq_ofNat_of_zero_le hb
    have e : (m : Int).tmod n = ((m % n : Nat) : Int) := rfl
    have := Nat.mod_le m n
    omega
  · obtain ⟨n, hn⟩ := Int.eq_ofNat_of_zero_le (show 0 ≤ -b by omega)
    have hb' : b = -(n : Int) := by omega
    subst hb'
    rw [Int.tmod_neg]
    have e : (m : Int).tmod n = ((m % n : Nat) : Int) := rfl
    have := Nat.mod_le m n
    omega
theorem tmod_fits {k : IntKind} {a b : Int} (ha : fits k a) : fits k (a.tmod b) := by
  unfold fits at ha ⊢
  have h1 : k.min ≤ 0 := by cases k <;> simp [IntKind.min, IntKind.signed, IntKind.bits]
  have h2 : 0 ≤ k.max := by cases k <;> simp [IntKind.max, IntKind.signed, IntKind.bits]
  rcases Int.le_total 0 a with h | h
  · have := tmod_self (b := b) h
    omega
  · have e : a.tmod b = -((-a).tmod b) := by rw [Int.neg_tmod, Int.neg_neg]
    have h3 := tmod_self (b := b) (show 0 ≤ -a by omega)
    omega
theorem fdiv_fits {k : IntKind} {a : Int} (n : Nat) (ha : fits k a) : fits k (a.fdiv (2 ^ n)) := by
  unfold fits at ha ⊢
  have h1 : k.min ≤ 0 := by cases k <;> simp [IntKind.min, IntKind.signed, IntKind.bits]
  have h2 : 0 ≤ k.max := by cases k <;> simp [IntKind.max, IntKind.signed, IntKind.bits]
  have hp : (0 : Int) < 2 ^ n := Int.pow_pos (by omega)
  have hp0 : (0 : Int) ≤ 2 ^ n := Int.le_of_lt hp
  rw [Int.fdiv_eq_ediv_of_nonneg _ hp0]
  rcases Int.le_total 0 a with h | h
  · have h3 := Int.ediv_nonneg h hp0
    have h4 := Int.ediv_le_self (2 ^ n) h
    omega
  · have h4 : a ≤ a / 2 ^ n := by
      rw [Int.le_ediv_iff_mul_le hp]
      have : a * 2 ^ n ≤ a * 1 := Int.mul_le_mul_of_nonpos_left h (by omega)
      omega
    have h3 : a / 2 ^ n ≤ 0 := by
      have := Int.ediv_le_ediv hp h
      simpa using this
    omega

end
end Go.XD


/- Structs against structs, part by part. -/
namespace Go.XD

def unA : (a b : Ty) → (appC a b).T → a.T
  | .cons _ r, b, z => (z.1, unA r b z.2)
  | .nil, _, _ => ()
  | .int _, _, z => z.1
  | .bool, _, z => z.1
  | .str, _, z => z.1
  | .lst _, _, z => z.1
  | .ptr _, _, z => z.1
  | .st _, _, z => z.1
def unB : (a b : Ty) → (appC a b).T → b.T
  | .cons _ r, b, z => unB r b z.2
  | .nil, _, z => z
  | .int _, _, z => z.2
  | .bool, _, z => z.2
  | .str, _, z => z.2
  | .lst _, _, z => z.2
  | .ptr _, _, z => z.2
  | .st _, _, z => z.2
theorem un_rep {cell : Addr → Option Value} {G : Nat → Prop} : ∀ {a b : Ty} {z : (appC a b).T} {f : Nat → Option Value}, RepC cell G (appC a b) z f → RepC cell G a (unA a b z) f ∧ RepC cell G b (unB a b z) (fun j => f (a.cells + j))
  | .cons p r, b, z, f, h => by
    simp only [appC, RepC] at h
    obtain ⟨h1, h2⟩ := un_rep (a := r) (b := b) h.2
    refine ⟨⟨h.1, h1⟩, ?_⟩
    refine RepC.congr (fun j _ => ?_) h2
    simp only [Ty.cells, Nat.add_assoc]
  | .nil, b, z, f, h => ⟨trivial, RepC.congr (fun j _ => by simp [Ty.cells]) h⟩
  | .int _, b, z, f, h => h
  | .bool, b, z, f, h => h
  | .str, b, z, f, h => h
  | .lst _, b, z, f, h => h
  | .ptr _, b, z, f, h => h
  | .st _, b, z, f, h => h
theorem un_eq : ∀ {a b : Ty} (z w : (appC a b).T), eqB (appC a b) z w = (eqB a (unA a b z) (unA a b w) && eqB b (unB a b z) (unB a b w))
  | .cons p r, b, z, w => by
    simp only [appC, eqB, unA, unB]
    rw [un_eq (a := r) (b := b), Bool.and_assoc]
  | .nil, b, z, w => by simp only [eqB, unA, unB, Bool.true_and]; rfl
  | .int _, b, z, w => rfl
  | .bool, b, z, w => rfl
  | .str, b, z, w => rfl
  | .lst _, b, z, w => rfl
  | .ptr _, b, z, w => rfl
  | .st _, b, z, w => rfl
theorem appC_cells : ∀ (a b : Ty), (appC a b).cells = a.cells + b.cells
  | .cons p r, b => by simp only [appC, Ty.cells, appC_cells r b, Nat.add_assoc]
  | .nil, b => by simp [appC, Ty.cells]
  | .int _, b => rfl
  | .bool, b => rfl
  | .str, b => rfl
  | .lst _, b => rfl
  | .ptr _, b => rfl
  | .st _, b => rfl

section
variable {P : Program} {cell : Addr → Option Value} {G : Nat → Prop} {W : World}

/-- A part's value. -/
def PartOK (P : Program) (W : World) (t : TypeId) (h : Ty) (n : Nat) (xs ys : Array Value) (off : Nat) (a b : h.T) : Prop :=
  ∃ v u, (part t xs off).run P W = .ok v W ∧ (part t ys off).run P W = .ok u W ∧ ∀ d, n ≤ d → (Op.equalIn d t v u).run P W = .ok (eqB h a b) W

theorem part_one {t : TypeId} {xs : Array Value} {off : Nat} {v : Value} (ha : (isAgg t).run P W = .ok false W) (hv : xs[off]? = some v) : (part t xs off).run P W = .ok v W := by
  simp only [part, Sem.run_bind, ha, Result.andThen_ok, Bool.false_eq_true, if_false, hv, Sem.run_pure]
theorem part_agg {t : TypeId} {xs : Array Value} {off n : Nat} (ha : (isAgg t).run P W = .ok true W) (hs : (sizeOf t).run P W = .ok n W) : (part t xs off).run P W = .ok (.agg (xs.extract off (off + n))) W := by
  simp only [part, Sem.run_bind, ha, Result.andThen_ok, if_true, hs, Sem.run_pure]

theorem eqFs_ok {L : TypeId → Option Ty} {d : Nat} {xs ys : Array Value} (hL : ∀ t h off (a b : h.T), L t = some h → RepC cell G h a (fun j => xs[off + j]?) → RepC cell G h b (fun j => ys[off + j]?) → h.cells = P.cellsOf t ∧ PartOK P W t h d xs ys off a b) :
    ∀ (fs : List Field) (off : Nat) (h : Ty) (a b : h.T), eqFs P L fs off = some h → RepC cell G h a (fun j => xs[off + j]?) → RepC cell G h b (fun j => ys[off + j]?) → (Op.eqFields d xs ys fs).run P W = .ok (eqB h a b) W
  | [], off, h, a, b, he, _, _ => by
    simp only [eqFs, Option.some.injEq] at he
    subst he
    simp [Op.eqFields, eqB]
  | f :: fs, off, h, a, b, he, ha, hb => by
    simp only [eqFs] at he
    cases hc : (Nat.beq f.offset off && !(f.name == "_")) with
    | false => rw [hc] at he; simp at he
    | true =>
      rw [hc] at he
      rw [Bool.and_eq_true] at hc
      have hoff := Nat.eq_of_beq_eq_true hc.1
      have hname : f.name ≠ "_" := by simpa using hc.2
      cases h1 : L f.type with
      | none => rw [h1] at he; simp at he
      | some p =>
        cases h2 : eqFs P L fs (off + P.cellsOf f.type) with
        | none => rw [h1, h2] at he; simp at he
        | some q =>
          rw [h1, h2] at he
          simp only [Option.some.injEq] at he
          subst he
          obtain ⟨ra, ra2⟩ := un_rep ha
          obtain ⟨rb, rb2⟩ := un_rep hb
          obtain ⟨hcell, v, u, k1, k2, k3⟩ := hL f.type p off _ _ h1 ra rb
          have hr := eqFs_ok hL fs (off + P.cellsOf f.type) q _ _ h2 (RepC.congr (fun j _ => by rw [hcell, Nat.add_assoc]) ra2) (RepC.congr (fun j _ => by rw [hcell, Nat.add_assoc]) rb2)
          rw [Op.eqFields]
          simp only [if_pos hname, Sem.run_bind, hoff, k1, k2, k3 d (Nat.le_refl _), Result.andThen_ok]
          rw [un_eq]
          cases eqB p (unA p q a) (unA p q b) with
          | false => simp
          | true => simpa using hr

theorem aggOf_of {t : TypeId} {u : TypeDesc} (hu : P.underlying t = some u) : (isAgg t).run P W = .ok (match u with
    | .struct _ => true
    | .array _ _ => true
    | _ => false) W := by
  cases u <;> simp [isAgg, run_underlying hu]

theorem eqPlan_ok : ∀ (n : Nat) (t : TypeId) (h : Ty) (xs ys : Array Value) (off : Nat) (a b : h.T), eqPlan P n t = some h → RepC cell G h a (fun j => xs[off + j]?) → RepC cell G h b (fun j => ys[off + j]?) →
    h.cells = P.cellsOf t ∧ PartOK P W t h n xs ys off a b
  | 0, _, _, _, _, _, _, _, he, _, _ => by simp [eqPlan] at he
  | n + 1, t, h, xs, ys, off, a, b, he, ha, hb => by
    simp only [eqPlan] at he
    split at he
    case h_2 => cases he
    rename_i h' hh
    split at he
    case h_2 => cases he
    rename_i hcell
    simp only [Option.some.injEq] at he
    subst he
    have hcell := Nat.eq_of_beq_eq_true hcell
    refine ⟨hcell, ?_⟩
    cases hu : P.underlying t with
    | none => rw [hu] at hh; simp at hh
    | some u =>
      have hag := aggOf_of (P := P) (W := W) hu
      rw [hu] at hh
      cases u with
      | int k =>
        simp only [Option.some.injEq] at hh
        subst hh
        simp only [RepC, Nat.add_zero] at ha hb
        refine ⟨_, _, part_one hag ha.1.1, part_one hag hb.1.1, fun d hd => ?_⟩
        cases d with
        | zero => omega
        | succ d => simp [Op.equalIn, run_underlying hu, eqB]
      | bool =>
        simp only [Option.some.injEq] at hh
        subst hh
        simp only [RepC, Nat.add_zero] at ha hb
        refine ⟨_, _, part_one hag ha.1, part_one hag hb.1, fun d hd => ?_⟩
        cases d with
        | zero => omega
        | succ d => simp [Op.equalIn, run_underlying hu, eqB]
      | string =>
        simp only [Option.some.injEq] at hh
        subst hh
        simp only [RepC, Nat.add_zero] at ha hb
        refine ⟨_, _, part_one hag ha.1.1, part_one hag hb.1.1, fun d hd => ?_⟩
        cases d with
        | zero => omega
        | succ d => simp [Op.equalIn, run_underlying hu, eqB, beq_toListBytes]
      | struct fs =>
        simp only at hh
        split at hh
        case h_2 => cases hh
        rename_i hst
        have hsz : (sizeOf t).run P W = .ok (P.cellsOf t) W := by
          unfold Program.underlying at hu
          cases hi : P.info? t with
          | none => rw [hi] at hu; simp at hu
          | some i => simp [sizeOf, typeInfo, hi, Program.cellsOf]
        refine ⟨_, _, part_agg hag hsz, part_agg hag hsz, fun d hd => ?_⟩
        cases d with
        | zero => omega
        | succ d =>
          have hf : P.fieldsOf t = fs := by simp [Program.fieldsOf, hu]
          rw [run_equalIn_struct (P := P) W d t _ _ (by rw [hf]; exact hu) hst, hf]
          have hx : ∀ (zs : Array Value) (z : h'.T), RepC cell G h' z (fun j => zs[off + j]?) → RepC cell G h' z (fun j => (zs.extract off (off + P.cellsOf t))[0 + j]?) := fun zs z hz => by
            refine RepC.congr (fun j hj => ?_) hz
            rw [Nat.zero_add, Array.getElem?_extract]
            split
            · rfl
            · rename_i hn
              rw [Array.getElem?_eq_none]
              omega
          refine eqFs_ok (fun t' h2 off' a' b' hL ra rb => ?_) fs.toList 0 h' a b hh (hx xs a ha) (hx ys b hb)
          obtain ⟨k1, v, u, k2, k3, k4⟩ := eqPlan_ok n t' h2 _ _ off' a' b' hL ra rb
          exact ⟨k1, v, u, k2, k3, fun d' hd' => k4 d' (by omega)⟩
      | _ => simp at hh
end
end Go.XD


/- Arithmetic, tests; all operations together. -/
namespace Go.XD

section
variable {P : Program} {F : Fm} {B : Nat → Prop} {S : St} {γ : Gam} {W : World} {fid : Nat} {cell : Addr → Option Value} {G : Nat → Prop} {get : Nat → Option Ob}

theorem xInt_ok {op : BinOp} {k : IntKind} {a b : Int} {c : Bool} {d : D} (t : TypeId) (h : xInt op k a b = some (c, d)) (hc : c = true) (ha : fits k a) (hop : op ≠ .shl ∧ op ≠ .shr) :
    ∃ v, (binOp op t (.int k a) (.int k b)).run P W = .ok v W ∧ RepD cell G get γ d v ∧ ∀ B, d.bnd B := by
  subst hc
  cases op <;> simp only [xInt, Option.some.injEq, Prod.mk.injEq, reduceCtorEq] at h
  case quo =>
    obtain ⟨h1, rfl⟩ := h
    simp only [Bool.not_eq_true', decide_eq_false_iff_not] at h1
    exact ⟨.int k (k.wrap (a.tdiv b)), by simp [binOp, Op.intDiv, h1], rep_int (wrap_fits _ _), fun _ => trivial⟩
  case rem =>
    obtain ⟨h1, rfl⟩ := h
    simp only [Bool.not_eq_true', decide_eq_false_iff_not] at h1
    exact ⟨.int k (a.tmod b), by simp [binOp, Op.intDiv, h1], rep_int (tmod_fits ha), fun _ => trivial⟩
  case and => obtain ⟨_, rfl⟩ := h; exact ⟨.int k (bitsOf .and k a b), by simp [binOp, Op.intBits, bitsOf], rep_int (wrap_fits _ _), fun _ => trivial⟩
  case or => obtain ⟨_, rfl⟩ := h; exact ⟨.int k (bitsOf .or k a b), by simp [binOp, Op.intBits, bitsOf], rep_int (wrap_fits _ _), fun _ => trivial⟩
  case xor => obtain ⟨_, rfl⟩ := h; exact ⟨.int k (bitsOf .xor k a b), by simp [binOp, Op.intBits, bitsOf], rep_int (wrap_fits _ _), fun _ => trivial⟩
  case andNot => obtain ⟨_, rfl⟩ := h; exact ⟨.int k (bitsOf .andNot k a b), by simp [binOp, Op.intBits, bitsOf], rep_int (wrap_fits _ _), fun _ => trivial⟩
  case eql => obtain ⟨_, rfl⟩ := h; exact ⟨.bool (a == b), by simp [binOp, Op.intCmp], rep_bool, fun _ => trivial⟩
  case neq => obtain ⟨_, rfl⟩ := h; exact ⟨.bool (a != b), by simp [binOp, Op.intCmp], rep_bool, fun _ => trivial⟩
  case add => obtain ⟨_, rfl⟩ := h; exact ⟨.int k (k.wrap (a + b)), by simp [binOp, Op.intArith], rep_int (wrap_fits _ _), fun _ => trivial⟩
  case sub => obtain ⟨_, rfl⟩ := h; exact ⟨.int k (k.wrap (a - b)), by simp [binOp, Op.intArith], rep_int (wrap_fits _ _), fun _ => trivial⟩
  case mul => obtain ⟨_, rfl⟩ := h; exact ⟨.int k (k.wrap (a * b)), by simp [binOp, Op.intArith], rep_int (wrap_fits _ _), fun _ => trivial⟩
  all_goals
    obtain ⟨_, rfl⟩ := h
    exact ⟨.bool _, by simp [binOp, Op.intCmp], rep_bool, fun _ => trivial⟩

theorem run_equalIn_bool (d : Nat) {t : TypeId} (hu : P.underlying t = some .bool) (a b : Bool) : (Op.equalIn (d + 1) t (.bool a) (.bool b)).run P W = .ok (a == b) W := by
  simp [Op.equalIn, run_underlying hu]
theorem run_equalIn_nil (d : Nat) {t e : TypeId} (hu : P.underlying t = some (.pointer e)) : (Op.equalIn (d + 1) t (.pointer none) (.pointer none)).run P W = .ok true W := by
  simp [Op.equalIn, run_underlying hu]
theorem run_equalIn_some (d : Nat) {t e : TypeId} (hu : P.underlying t = some (.pointer e)) (a : Addr) : (Op.equalIn (d + 1) t (.pointer (some a)) (.pointer none)).run P W = .ok false W := by
  simp [Op.equalIn, run_underlying hu]
theorem run_eqBool {t : TypeId} (hu : P.underlying t = some .bool) (a b : Bool) : (Op.equal t (.bool a) (.bool b)).run P W = .ok (a == b) W := run_equalIn_bool 9999 hu a b
theorem run_eqNil {t e : TypeId} (hu : P.underlying t = some (.pointer e)) : (Op.equal t (.pointer none) (.pointer none)).run P W = .ok true W := run_equalIn_nil 9999 hu
theorem run_eqSome {t e : TypeId} (hu : P.underlying t = some (.pointer e)) (a : Addr) : (Op.equal t (.pointer (some a)) (.pointer none)).run P W = .ok false W := run_equalIn_some 9999 hu a

theorem run_equalIn_slice (d : Nat) {t e : TypeId} (hu : P.underlying t = some (.slice e)) (a : Option Addr) (n c : Nat) : (Op.equalIn (d + 1) t (.slice a n c) (.slice none 0 0)).run P W = .ok a.isNone W := by
  cases a <;> simp [Op.equalIn, run_underlying hu]
theorem run_eqSlice {t e : TypeId} (hu : P.underlying t = some (.slice e)) (a : Option Addr) (n c : Nat) : (Op.equal t (.slice a n c) (.slice none 0 0)).run P W = .ok a.isNone W := run_equalIn_slice 9999 hu a n c
theorem eqGuard_skip {op : BinOp} {t : TypeId} {x y : Operand} {a b : Value} (h : ∀ as bs, ¬ (a = .agg as ∧ b = .agg bs)) (h2 : ¬ (a = .nilIface ∧ b = .nilIface)) : (eqGuard op t x y a b).run P W = .ok () W := by
  have key : (match a, b with
      | .nilIface, .nilIface => (do
        if (x matches .const _) || (y matches .const _) then return
        if ← Op.eqGuardIn Op.maxDepth t a b then unsupported (.noEntry "binop/eql: two nil values of an interface type with methods, neither of them the literal nil") : Sem Unit)
      | .agg _, .agg _ => do
        if !(← program).eqGuardType (← program).depth t then return
        if ← Op.eqGuardIn Op.maxDepth t a b then unsupported (.noEntry "binop/eql: two nil values of an interface type with methods, in a part of a struct or an array")
      | _, _ => pure ()).run P W = .ok () W := by
    split
    · exact absurd ⟨rfl, rfl⟩ h2
    · exact absurd ⟨rfl, rfl⟩ (h _ _)
    · rfl
  unfold eqGuard
  split
  · exact key
  · exact key
  · rfl

theorem xEqS_ok {t : TypeId} {x y : D} {b : Bool} {v u : Value} (h : xEqS P t x y = some b) (hx : RepD W.cell? (Frz F S γ W) S.get γ x v) (hy : RepD W.cell? (Frz F S γ W) S.get γ y u) :
    (∃ as bs, v = .agg as ∧ u = .agg bs) ∧ P.eqGuardType P.depth t = false ∧ (Op.equal t v u).run P W = .ok b W := by
  unfold xEqS at h
  split at h
  · rename_i f a g a'
    split at h
    · rename_i fs hh hu hpl hgd
      split at h
      · rename_i z z' h1 h2
        simp only [Option.some.injEq] at h
        subst h
        unfold castT at h1 h2
        split at h1
        · rename_i e1
          split at h2
          · rename_i e2
            subst e1
            subst e2
            simp only [Option.some.injEq] at h1 h2
            subst h1
            subst h2
            simp only [RepD, RepV] at hx hy
            rw [if_pos (by rfl)] at hx hy
            obtain ⟨cs, rfl, hs, hr⟩ := hx
            obtain ⟨cs', rfl, hs', hr'⟩ := hy
            refine ⟨⟨cs, cs', rfl, rfl⟩, hgd, ?_⟩
            obtain ⟨hc, w, w', k1, k2, k3⟩ := eqPlan_ok (W := W) 12 t _ cs cs' 0 _ _ hpl (RepC.congr (fun j _ => by rw [Nat.zero_add]) hr) (RepC.congr (fun j _ => by rw [Nat.zero_add]) hr')
            have hag := aggOf_of (P := P) (W := W) hu
            have hsz : (sizeOf t).run P W = .ok (P.cellsOf t) W := by
              unfold Program.underlying at hu
              cases hi : P.info? t with
              | none => rw [hi] at hu; simp at hu
              | some i => simp [sizeOf, typeInfo, hi, Program.cellsOf]
            simp only [Ty.cells] at hs hs'
            have full : ∀ (zs : Array Value), zs.size = Ty.cells _ → zs.extract 0 (0 + P.cellsOf t) = zs := fun zs hz => by
              rw [Nat.zero_add, ← hc, ← hz, Array.extract_size]
            rw [part_agg hag hsz, full cs hs] at k1
            rw [part_agg hag hsz, full cs' hs'] at k2
            simp only [Result.ok.injEq, and_true] at k1 k2
            subst k1
            subst k2
            exact k3 10000 (by omega)
          · cases h2
        · cases h1
      · cases h
    · cases h
  · cases h

theorem eqGuard_agg {op : BinOp} {t : TypeId} {x y : Operand} {as bs : Array Value} (h : P.eqGuardType P.depth t = false) : (eqGuard op t x y (.agg as) (.agg bs)).run P W = .ok () W := by
  unfold eqGuard
  split
  · simp only [Bool.not_true, Bool.false_eq_true, if_false, Sem.run_bind, run_program, Result.andThen_ok, h, Bool.not_false, if_true, Sem.run_pure]
  · simp only [Bool.not_true, Bool.false_eq_true, if_false, Sem.run_bind, run_program, Result.andThen_ok, h, Bool.not_false, if_true, Sem.run_pure]
  · simp only [Bool.not_false, if_true, Sem.run_pure]

theorem xBin_ok (hp : Hp F B S γ W) {op : BinOp} {t : TypeId} {x y d : D} {c : Bool} {v u : Value} {ox oy : Operand} (h : xBin P op t x y = some (c, d)) (hc : c = true) (hx : RepD W.cell? (Frz F S γ W) S.get γ x v) (hy : RepD W.cell? (Frz F S γ W) S.get γ y u) :
    OpOK F B S γ W fid ((do eqGuard op t ox oy v u; pure (.value (← binOp op t v u)) : Sem Next).run P W) ⟨c, d, []⟩ := by
  have fin : ∀ {w : Value}, (∀ as bs, ¬ (v = .agg as ∧ u = .agg bs)) → ¬ (v = .nilIface ∧ u = .nilIface) → (binOp op t v u).run P W = .ok w W → RepD W.cell? (Frz F S γ W) S.get γ d w → d.bnd B →
      OpOK F B S γ W fid ((do eqGuard op t ox oy v u; pure (.value (← binOp op t v u)) : Sem Next).run P W) ⟨c, d, []⟩ := by
    intro w h1 h2 h3 h4 h5
    have : (do eqGuard op t ox oy v u; pure (.value (← binOp op t v u)) : Sem Next).run P W = .ok (.value w) W := by
      simp only [Sem.run_bind, eqGuard_skip h1 h2, Result.andThen_ok, h3, Sem.run_pure]
    rw [this]
    exact OpOK.same hp h4 h5
  have eqs : ∀ {b : Bool}, xEq P t x y = some b → (∀ as bs, ¬ (v = .agg as ∧ u = .agg bs)) ∧ ¬ (v = .nilIface ∧ u = .nilIface) ∧ (Op.equal t v u).run P W = .ok b W ∧ (∀ a b, v ≠ .string a ∨ u ≠ .string b) ∧ (∀ k a k' b, v ≠ .int k a ∨ u ≠ .int k' b) ∧
      (binOp .eql t v u = (do pure (.bool (← Op.equal t v u)))) ∧ (binOp .neq t v u = (do pure (.bool (!(← Op.equal t v u))))) := by
    intro b he
    cases x with
    | fz tx a =>
      cases tx with
      | bool =>
        cases y with
        | fz ty b' =>
          cases ty with
          | bool =>
            rw [of_bool hx, of_bool hy]
            simp only [xEq] at he
            cases hu : P.underlying t with
            | none => rw [hu] at he; simp at he
            | some q =>
              cases q <;> rw [hu] at he <;> simp only [Option.some.injEq, reduceCtorEq] at he
              subst he
              exact ⟨by simp, by simp, run_eqBool hu _ _, by simp, by simp, rfl, rfl⟩
          | _ => simp [xEq] at he
        | _ => simp [xEq] at he
      | ptr f =>
        cases y with
        | nilp =>
          simp only [RepD] at hy
          subst hy
          simp only [xEq] at he
          cases hu : P.underlying t with
          | none => rw [hu] at he; simp at he
          | some q =>
            cases q <;> rw [hu] at he <;> simp only [Option.some.injEq, reduceCtorEq] at he
            subst he
            rcases of_ptr hx with ⟨rfl, rfl⟩ | ⟨z, rfl, ad, rfl, _⟩
            · exact ⟨by simp, by simp, run_eqNil hu, by simp, by simp, rfl, rfl⟩
            · exact ⟨by simp, by simp, run_eqSome hu _, by simp, by simp, rfl, rfl⟩
        | _ => simp [xEq] at he
      | _ => cases y <;> simp [xEq] at he
    | fp fs a off =>
      cases y with
      | nilp =>
        simp only [RepD] at hy hx
        subst hy
        obtain ⟨ad, _, _, _, rfl⟩ := hx
        simp only [xEq] at he
        cases hu : P.underlying t with
        | none => rw [hu] at he; simp at he
        | some q =>
          cases q <;> rw [hu] at he <;> simp only [Option.some.injEq, reduceCtorEq] at he
          subst he
          exact ⟨by simp, by simp, run_eqSome hu _, by simp, by simp, rfl, rfl⟩
      | _ => simp [xEq] at he
    | nilp =>
      cases y with
      | nilp =>
        simp only [RepD] at hy hx
        subst hy
        subst hx
        simp only [xEq] at he
        cases hu : P.underlying t with
        | none => rw [hu] at he; simp at he
        | some q =>
          cases q <;> rw [hu] at he <;> simp only [Option.some.injEq, reduceCtorEq] at he
          subst he
          exact ⟨by simp, by simp, run_eqNil hu, by simp, by simp, rfl, rfl⟩
      | _ => simp [xEq] at he
    | _ => cases y <;> simp [xEq] at he
  have eqfin : xEqR P op t x y = some (c, d) → OpOK F B S γ W fid ((do eqGuard op t ox oy v u; pure (.value (← binOp op t v u)) : Sem Next).run P W) ⟨c, d, []⟩ := by
    intro h
    cases op <;> simp only [xEqR, reduceCtorEq] at h
    case eql =>
      cases hz : xNilT P t x y with
      | some z =>
        rw [hz] at h
        simp only [Option.some.injEq, Prod.mk.injEq] at h
        obtain ⟨rfl, rfl⟩ := h
        unfold xNilT at hz
        split at hz
        · rename_i e xs
          cases hu : P.underlying t with
          | none => rw [hu] at hz; simp at hz
          | some q =>
            cases q <;> rw [hu] at hz <;> simp only [Option.some.injEq, reduceCtorEq] at hz
            subst hz
            simp only [RepD] at hy
            subst hy
            simp only [RepD, RepV] at hx
            rw [if_neg (by simp [Ty.isSt])] at hx
            obtain ⟨ad, cap, hv0, _, _, hne⟩ := hx
            have hv0 : v = .slice ad (List.length (α := e.T) xs) cap := by simpa using hv0
            subst hv0
            have hrun : ∃ b, (Op.equal t (.slice ad (List.length (α := e.T) xs) cap) (.slice none 0 0)).run P W = .ok b W ∧ (b = true → (List.isEmpty (α := e.T) xs) = true) := by
              refine ⟨_, run_eqSlice hu _ _ _, fun hb => ?_⟩
              cases xs with
              | nil => rfl
              | cons y r =>
                obtain ⟨ad', h1, _⟩ := hne (by simp)
                subst h1
                cases hb
            obtain ⟨b, h1, h2⟩ := hrun
            refine fin (by simp) (by simp) (w := .bool b) ?_ ?_ trivial
            · have : binOp .eql t (.slice ad (List.length (α := e.T) xs) cap) (.slice none 0 0) = (do pure (.bool (← Op.equal t (.slice ad (List.length (α := e.T) xs) cap) (.slice none 0 0)))) := rfl
              rw [this]
              simp [h1]
            · simp only [RepD]
              exact ⟨b, rfl, h2⟩
        · cases hz
      | none =>
        rw [hz] at h
        simp only at h
        cases hes : xEqS P t x y with
        | some b =>
          rw [hes] at h
          simp only [Option.some.injEq, Prod.mk.injEq] at h
          obtain ⟨rfl, rfl⟩ := h
          obtain ⟨⟨as, bs, rfl, rfl⟩, h2, h3⟩ := xEqS_ok hes hx hy
          have : (do eqGuard .eql t ox oy (.agg as) (.agg bs); pure (.value (← binOp .eql t (.agg as) (.agg bs))) : Sem Next).run P W = .ok (.value (.bool b)) W := by
            have e : binOp .eql t (.agg as) (.agg bs) = (do pure (.bool (← Op.equal t (.agg as) (.agg bs)))) := rfl
            simp only [Sem.run_bind, eqGuard_agg h2, Result.andThen_ok, e, h3, Sem.run_pure]
          rw [this]
          exact OpOK.same hp rep_bool trivial
        | none =>
        rw [hes] at h
        simp only at h
        cases he : xEq P t x y with
        | none => rw [he] at h; simp at h
        | some b =>
          rw [he] at h
          simp only [Option.some.injEq, Prod.mk.injEq] at h
          obtain ⟨rfl, rfl⟩ := h
          obtain ⟨h1, h2, h3, _, _, h4, _⟩ := eqs he
          exact fin h1 h2 (by rw [h4]; simp [h3]) rep_bool trivial
    case neq =>
      cases hes : xEqS P t x y with
      | some b =>
        rw [hes] at h
        simp only [Option.some.injEq, Prod.mk.injEq] at h
        obtain ⟨rfl, rfl⟩ := h
        obtain ⟨⟨as, bs, rfl, rfl⟩, h2, h3⟩ := xEqS_ok hes hx hy
        have : (do eqGuard .neq t ox oy (.agg as) (.agg bs); pure (.value (← binOp .neq t (.agg as) (.agg bs))) : Sem Next).run P W = .ok (.value (.bool (!b))) W := by
          have e : binOp .neq t (.agg as) (.agg bs) = (do pure (.bool (!(← Op.equal t (.agg as) (.agg bs))))) := rfl
          simp only [Sem.run_bind, eqGuard_agg h2, Result.andThen_ok, e, h3, Sem.run_pure]
        rw [this]
        exact OpOK.same hp rep_bool trivial
      | none =>
      rw [hes] at h
      simp only at h
      cases he : xEq P t x y with
      | none => rw [he] at h; simp at h
      | some b =>
        rw [he] at h
        simp only [Option.some.injEq, Prod.mk.injEq] at h
        obtain ⟨rfl, rfl⟩ := h
        obtain ⟨h1, h2, h3, _, _, _, h4⟩ := eqs he
        exact fin h1 h2 (by rw [h4]; simp [h3]) rep_bool trivial
  cases x with
  | fz tx a =>
    cases tx with
    | int k =>
      change Int at a
      cases y with
      | fz ty b =>
        cases ty with
        | int k' =>
          change Int at b
          obtain ⟨rfl, ha⟩ := of_int hx
          obtain ⟨rfl, hb⟩ := of_int hy
          have gen : ∀ (hop : op ≠ .shl ∧ op ≠ .shr), (if k = k' then xInt op k a b else none) = some (c, d) → OpOK F B S γ W fid ((do eqGuard op t ox oy (.int k a) (.int k' b); pure (.value (← binOp op t (.int k a) (.int k' b))) : Sem Next).run P W) ⟨c, d, []⟩ := by
            intro hop h5
            by_cases e : k = k'
            · rw [if_pos e] at h5
              subst e
              obtain ⟨w, k1, k2, k3⟩ := xInt_ok (P := P) (W := W) (cell := W.cell?) (G := Frz F S γ W) (get := S.get) (γ := γ) t h5 hc ha hop
              exact fin (by simp) (by simp) k1 k2 (k3 B)
            · rw [if_neg e] at h5
              cases h5
          cases op with
          | shl =>
            simp only [xBin, Option.some.injEq, Prod.mk.injEq] at h
            obtain ⟨rfl, rfl⟩ := h
            have hb0 : (0 : Int) ≤ b := of_decide_eq_true hc
            exact fin (by simp) (by simp) (w := .int k (shlOf k a b)) (by simp [binOp, Op.shift, shlOf, show ¬ b < 0 by omega]) (rep_int (wrap_fits _ _)) trivial
          | shr =>
            simp only [xBin, Option.some.injEq, Prod.mk.injEq] at h
            obtain ⟨rfl, rfl⟩ := h
            have hb0 : (0 : Int) ≤ b := of_decide_eq_true hc
            exact fin (by simp) (by simp) (w := .int k (shrOf k a b)) (by simp [binOp, Op.shift, shrOf, show ¬ b < 0 by omega]) (rep_int (fdiv_fits _ ha)) trivial
          | _ => exact gen ⟨by simp, by simp⟩ (by simpa only [xBin] using h)
        | _ => exact eqfin (by simpa only [xBin] using h)
      | _ => exact eqfin (by simpa only [xBin] using h)
    | str =>
      cases y with
      | fz ty b =>
        cases ty with
        | str =>
          change ByteArray at a b
          obtain ⟨rfl, ha⟩ := of_str hx
          obtain ⟨rfl, hb⟩ := of_str hy
          cases op <;> simp only [xBin, Option.some.injEq, Prod.mk.injEq, reduceCtorEq] at h
          case add =>
            obtain ⟨rfl, rfl⟩ := h
            simp only [decide_eq_true_eq] at hc
            refine fin (by simp) (by simp) (w := .string (a ++ b)) ?_ (rep_str (by rw [ByteArray.size_append]; exact hc)) trivial
            have : ¬ (((a.size + b.size : Nat) : Int) > IntKind.i64.max) := by
              simp [IntKind.max, IntKind.signed, IntKind.bits]; omega
            simp only [binOp, Op.stringOp]
            rw [if_neg this]
            rfl
          case eql =>
            obtain ⟨rfl, rfl⟩ := h
            exact fin (by simp) (by simp) (w := .bool (a.toList == b.toList)) (by simp [binOp, Op.stringOp]) rep_bool trivial
          case neq =>
            obtain ⟨rfl, rfl⟩ := h
            exact fin (by simp) (by simp) (w := .bool (!(a.toList == b.toList))) (by simp [binOp, Op.stringOp]) rep_bool trivial
        | _ => exact eqfin (by simpa only [xBin] using h)
      | _ => exact eqfin (by simpa only [xBin] using h)
    | _ => exact eqfin (by cases y <;> simpa only [xBin] using h)
  | _ => exact eqfin (by cases y <;> simpa only [xBin] using h)
theorem xPN_ok (hp : Hp F B S γ W) {op : BinOp} {t : TypeId} {x y : D} {b : Bool} {v u : Value} {ox oy : Operand} (h : xPN P S.get op t x y = some b) (hx : RepD W.cell? (Frz F S γ W) S.get γ x v) (hy : RepD W.cell? (Frz F S γ W) S.get γ y u) :
    OpOK F B S γ W fid ((do eqGuard op t ox oy v u; pure (.value (← binOp op t v u)) : Sem Next).run P W) ⟨true, .fz .bool b, []⟩ := by
  unfold xPN at h
  split at h
  · simp only [RepD] at hy
    subst hy
    split at h
    · rename_i e hx2 hu
      have hv : ∃ ad, v = .pointer (some ad) := by
        split at hx2
        · rename_i id off
          simp only [RepD] at hx
          unfold isCells at hx2
          cases ho : S.get id with
          | none => rw [ho] at hx2; cases hx2
          | some ob =>
            cases ob with
            | buf _ _ => rw [ho] at hx2; cases hx2
            | arr _ _ _ => rw [ho] at hx2; cases hx2
            | opt _ _ => rw [ho] at hx2; cases hx2
            | mp _ _ _ _ => rw [ho] at hx2; cases hx2
            | bh _ _ _ _ _ => rw [ho] at hx2; cases hx2
            | cells ds =>
              rw [ho] at hx
              obtain ⟨g, c, _, e⟩ := hx.2
              exact ⟨_, e⟩
        · rename_i id i off
          simp only [RepD] at hx
          unfold isBuf at hx2
          cases ho : S.get id with
          | none => rw [ho] at hx2; cases hx2
          | some ob =>
            cases ob with
            | cells _ => rw [ho] at hx2; cases hx2
            | arr _ _ _ => rw [ho] at hx2; cases hx2
            | opt _ _ => rw [ho] at hx2; cases hx2
            | mp _ _ _ _ => rw [ho] at hx2; cases hx2
            | bh _ _ _ _ _ =>
              rw [ho] at hx
              obtain ⟨_, g, c, _, e⟩ := hx.2
              exact ⟨_, e⟩
            | buf _ _ =>
              rw [ho] at hx
              obtain ⟨_, g, c, _, e⟩ := hx.2
              exact ⟨_, e⟩
        · cases hx2
      obtain ⟨ad, rfl⟩ := hv
      split at h
      · simp only [Option.some.injEq] at h
        subst h
        have : (do eqGuard .eql t ox oy (.pointer (some ad)) (.pointer none); pure (.value (← binOp .eql t (.pointer (some ad)) (.pointer none))) : Sem Next).run P W = .ok (.value (.bool false)) W := by
          have e : binOp .eql t (.pointer (some ad)) (.pointer none) = (do pure (.bool (← Op.equal t (.pointer (some ad)) (.pointer none)))) := rfl
          simp only [Sem.run_bind, eqGuard_skip (a := .pointer (some ad)) (b := .pointer none) (by simp) (by simp), Result.andThen_ok, e, run_eqSome hu, Sem.run_pure]
        rw [this]
        exact OpOK.same hp rep_bool trivial
      · simp only [Option.some.injEq] at h
        subst h
        have : (do eqGuard .neq t ox oy (.pointer (some ad)) (.pointer none); pure (.value (← binOp .neq t (.pointer (some ad)) (.pointer none))) : Sem Next).run P W = .ok (.value (.bool true)) W := by
          have e : binOp .neq t (.pointer (some ad)) (.pointer none) = (do pure (.bool (!(← Op.equal t (.pointer (some ad)) (.pointer none))))) := rfl
          simp only [Sem.run_bind, eqGuard_skip (a := .pointer (some ad)) (b := .pointer none) (by simp) (by simp), Result.andThen_ok, e, run_eqSome hu, Sem.run_pure, Bool.not_false]
        rw [this]
        exact OpOK.same hp rep_bool trivial
      · cases h
    · cases h
  · cases h
theorem xNilS_ok (hp : Hp F B S γ W) {op : BinOp} {t : TypeId} {x y : D} {z : Bool} {v u : Value} {ox oy : Operand} (h : xNilS P S.get op t x y = some z) (hx : RepD W.cell? (Frz F S γ W) S.get γ x v) (hy : RepD W.cell? (Frz F S γ W) S.get γ y u) :
    OpOK F B S γ W fid ((do eqGuard op t ox oy v u; pure (.value (← binOp op t v u)) : Sem Next).run P W) ⟨true, .nt z, []⟩ := by
  unfold xNilS at h
  split at h
  · rename_i id
    split at h
    · split at h
      · rename_i e xs el ho hu
        simp only [Option.some.injEq] at h
        subst h
        simp only [RepD] at hx hy
        subst hy
        rw [ho] at hx
        simp only at hx
        have hob := hp.obs id _ ho
        simp only [ObRep] at hob
        have hv : ∃ (ad : Option Addr) (n c : Nat), v = .slice ad n c ∧ (ad.isNone = true → (List.isEmpty (α := e.T) xs) = true) := by
          rcases hx.2 with ⟨g, c, _, rfl⟩ | ⟨h1, a, rfl⟩
          · exact ⟨_, _, _, rfl, fun hb => by cases hb⟩
          · refine ⟨a, 0, 0, rfl, fun _ => ?_⟩
            rcases hob with ⟨_, h2⟩ | ⟨g, c, us, tt, h2, _⟩
            · rw [h2]; rfl
            · exact (hd_ne' h1 h2).elim
        obtain ⟨ad, n, c, rfl, hb⟩ := hv
        have : (do eqGuard .eql t ox oy (.slice ad n c) (.slice none 0 0); pure (.value (← binOp .eql t (.slice ad n c) (.slice none 0 0))) : Sem Next).run P W = .ok (.value (.bool ad.isNone)) W := by
          have e : binOp .eql t (.slice ad n c) (.slice none 0 0) = (do pure (.bool (← Op.equal t (.slice ad n c) (.slice none 0 0)))) := rfl
          simp only [Sem.run_bind, eqGuard_skip (a := .slice ad n c) (b := .slice none 0 0) (by simp) (by simp), Result.andThen_ok, e, run_eqSlice hu, Sem.run_pure]
        rw [this]
        exact OpOK.same hp (by simp only [RepD]; exact ⟨_, rfl, hb⟩) trivial
      · cases h
    · cases h
  · cases h
end
end Go.XD


/- All operations together. -/
namespace Go.XD

section
variable {P : Program} {F : Fm} {B : Nat → Prop} {S : St} {γ : Gam} {W : World} {fid : Nat}

theorem un_ok {cell : Addr → Option Value} {G : Nat → Prop} {get : Nat → Option Ob} {op : UnOp} {x d : D} {v : Value} (h : xUn op x = some d) (hx : RepD cell G get γ x v) : ∃ u, (Op.unary op v).run P W = .ok u W ∧ RepD cell G get γ d u ∧ d.bnd B := by
  unfold xUn at h
  split at h
  · simp only [Option.some.injEq] at h
    subst h
    rw [of_bool hx]
    exact ⟨_, rfl, rep_bool, trivial⟩
  · simp only [Option.some.injEq] at h
    subst h
    rw [(of_int hx).1]
    exact ⟨_, rfl, rep_int (wrap_fits _ _), trivial⟩
  · cases h
theorem conv_ok {G : Nat → Prop} {get : Nat → Option Ob} {s t : TypeId} {x d : D} {v : Value} (h : xConv P s t x = some d) (hx : RepD W.cell? G get γ x v) : ∃ u, (convert s t v).run P W = .ok u W ∧ RepD W.cell? G get γ d u ∧ d.bnd B := by
  unfold xConv at h
  split at h
  · rename_i h1 h2
    simp only [Option.some.injEq] at h
    subst h
    rw [(of_int hx).1]
    exact ⟨_, by simp [convert, run_underlying h1, run_underlying h2, Conv.intToInt], rep_int (wrap_fits _ _), trivial⟩
  · rename_i h1 h2
    simp only [Option.some.injEq] at h
    subst h
    rw [(of_str hx).1]
    refine ⟨_, ?_, rep_str (of_str hx).2, trivial⟩
    simp only [convert, Sem.run_bind, run_underlying h1, run_underlying h2, Result.andThen_ok]
    rfl
  · rename_i el xs h1 h2
    split at h
    · rename_i h3
      simp only [Option.some.injEq] at h
      subst h
      obtain ⟨a, c, rfl, k1, k2, k3⟩ := of_lst hx
      change List Int at xs
      refine ⟨_, ?_, rep_str (s := strOfNums xs) (by rw [strOfNums_size]; exact k2), trivial⟩
      rw [run_convert_bytes_string W s t el a _ c h1 h3 h2]
      cases a with
      | none =>
        have : xs = [] := by
          cases xs with
          | nil => rfl
          | cons y r =>
            obtain ⟨ad, e, _⟩ := k3 (by simp)
            cases e
        subst this
        simp only [Conv.bytesToString, Sem.run_pure]
        rfl
      | some ad =>
        have hl : (loadCells ad xs.length).run P W = .ok (xs.map (Value.int .u8)).toArray W := by
          have := run_loadCells_list (P := P) W ad (xs.map (Value.int .u8)) (fun j v hj => by
            have hjl : j < xs.length := by
              rcases Nat.lt_or_ge j xs.length with h | h
              · exact h
              · simp [List.getElem?_eq_none (show (xs.map (Value.int .u8)).length ≤ j by simpa using h)] at hj
            obtain ⟨ad', e, _, _, k4⟩ := k3 (fun e => by subst e; simp at hjl)
            simp only [Option.some.injEq] at e
            subst e
            have := (k4 j xs[j] (List.getElem?_eq_getElem hjl)).1
            simp only [Ty.cells, Nat.mul_one, Nat.add_zero] at this
            rw [this]
            simp [List.getElem?_eq_getElem hjl] at hj
            rw [hj])
          simpa using this
        rw [run_bytesToString W ad _ c xs hl, foldl_push_bytes]
        simp [strOfNums, ByteArray.empty, ByteArray.emptyWithCapacity]
        rfl
    · cases h
  · cases h
theorem len_ok (hp : Hp F B S γ W) {t : TypeId} {x d : D} {v : Value} (h : xLen P S.get t x = some d) (hx : RepD W.cell? (Frz F S γ W) S.get γ x v) (ty : TypeId) :
    ∃ u, (Builtin.len_ #[t] ty #[v]).run P W = .ok u W ∧ RepD W.cell? (Frz F S γ W) S.get γ d u ∧ d.bnd B := by
  unfold xLen at h
  have fitN : ∀ n : Nat, n ≤ 140737488355328 → fits .i64 (n : Int) := fun n hn => by
    unfold fits
    simp [IntKind.min, IntKind.max, IntKind.signed, IntKind.bits]
    omega
  split at h
  · rename_i hu
    simp only [Option.some.injEq] at h
    subst h
    obtain ⟨a, c, rfl, k1, k2, _⟩ := of_lst hx
    exact ⟨_, by simp [Builtin.len_, run_underlying hu, goInt], rep_int (fitN _ k2), trivial⟩
  · rename_i hu
    split at h
    · rename_i e xs hg
      simp only [Option.some.injEq] at h
      subst h
      simp only [RepD] at hx
      rw [hg] at hx
      obtain ⟨_, hx⟩ := hx
      rcases hx with ⟨g, c, r1, rfl⟩ | ⟨r1, a0, rfl⟩
      · rcases hp.obs _ _ hg with ⟨q1, _⟩ | ⟨g', c', vs, tt, q1, q2, q3, q4, q5, q6⟩
        · first | exact (hd_ne r1 q1).elim | exact (hd_ne' r1 q1).elim
        · exact ⟨_, by simp [Builtin.len_, run_underlying hu, goInt], rep_int (fitN _ q5), trivial⟩
      · rcases hp.obs _ _ hg with ⟨q1, rfl⟩ | ⟨g', c', vs, tt, q1, _⟩
        · exact ⟨.int .i64 0, by simp [Builtin.len_, run_underlying hu, goInt], rep_int (fitN 0 (by omega)), trivial⟩
        · first | exact (hd_ne r1 q1).elim | exact (hd_ne' r1 q1).elim
    · rename_i e xs hh hg
      simp only [Option.some.injEq] at h
      subst h
      simp only [RepD] at hx
      rw [hg] at hx
      obtain ⟨_, hx⟩ := hx
      rcases hx with ⟨g, c, r1, rfl⟩ | ⟨r1, a0, rfl⟩
      · rcases hp.obs _ _ hg with ⟨q1, _⟩ | ⟨g', c', vs, tt, bls, q1, q2, q3, q4, q5, q6⟩
        · first | exact (hd_ne r1 q1).elim | exact (hd_ne' r1 q1).elim
        · exact ⟨_, by simp [Builtin.len_, run_underlying hu, goInt], rep_int (fitN _ q5), trivial⟩
      · rcases hp.obs _ _ hg with ⟨q1, rfl, _⟩ | ⟨g', c', vs, tt, bls, q1, _⟩
        · exact ⟨.int .i64 0, by simp [Builtin.len_, run_underlying hu, goInt], rep_int (fitN 0 (by omega)), trivial⟩
        · unfold hdG at r1
          rw [q1] at r1
          simp at r1
    · cases h
  · rename_i hu
    simp only [Option.some.injEq] at h
    subst h
    simp only [RepD] at hx
    subst hx
    exact ⟨.int .i64 0, by simp [Builtin.len_, run_underlying hu, goInt], rep_int (fitN 0 (by omega)), trivial⟩
  · rename_i hu
    simp only [Option.some.injEq] at h
    subst h
    obtain ⟨rfl, k⟩ := of_str hx
    exact ⟨_, by simp [Builtin.len_, run_underlying hu, goInt], rep_int (fitN _ k), trivial⟩
  · cases h
theorem field_ok {cell : Addr → Option Value} {G : Nat → Prop} {get : Nat → Option Ob} {s : TypeId} {f : Nat} {x d : D} {v : Value} (h : xField P s x f = some d) (hx : RepD cell G get γ x v) :
    ∃ u, (Instr.field s v f).run P W = .ok u W ∧ RepD cell G get γ d u ∧ d.bnd B := by
  unfold xField at h
  split at h
  · rename_i off ft g y hf
    cases ha : aggOf P ft with
    | none => rw [ha] at h; simp at h
    | some q =>
      obtain ⟨agg, n⟩ := q
      rw [ha] at h
      simp only at h
      simp only [RepD] at hx
      unfold RepV at hx
      rw [if_pos (by rfl)] at hx
      obtain ⟨cs, rfl, h2, h3⟩ := hx
      obtain ⟨k1, k2, ty, z, rfl⟩ := subC_rep (get := get) (γ := γ) h (show RepC cell G g y (fun j => cs[j]?) from h3)
      obtain ⟨a1, i, a2, a3⟩ := agg_run ha W
      have hu : ∃ fs x, P.underlying s = some (.struct fs) ∧ fs[f]? = some x ∧ x.offset = off ∧ x.type = ft := by
        unfold fieldOf at hf
        cases hu : P.underlying s with
        | none => rw [hu] at hf; simp at hf
        | some u =>
          cases u with
          | struct fs =>
            rw [hu] at hf
            simp only at hf
            cases hx : fs[f]? with
            | none => rw [hx] at hf; simp at hf
            | some x =>
              rw [hx] at hf
              simp only [Option.some.injEq, Prod.mk.injEq] at hf
              exact ⟨fs, x, rfl, hx, hf.1, hf.2⟩
          | _ => rw [hu] at hf; simp at hf
      obtain ⟨fs, x, hu1, hu2, rfl, rfl⟩ := hu
      cases agg with
      | true =>
        obtain ⟨vals, g1, g2⟩ := k1 rfl
        refine ⟨_, ?_, g2, trivial⟩
        have e : cs.extract x.offset (x.offset + n) = ((List.range n).map vals).toArray := by
          apply Array.ext_getElem?
          intro j
          rw [range_get]
          by_cases hj : j < n
          · rw [if_pos hj, ← g1 j hj, Array.getElem?_extract]
            have : x.offset + j < cs.size := by
              have := g1 j hj
              exact (Array.getElem?_eq_some_iff.1 this).1
            rw [if_pos (by omega)]
          · rw [if_neg hj, Array.getElem?_eq_none (by simp; omega)]
        simp [Instr.field, run_underlying hu1, hu2, asAgg, part, a1, run_size a2, a3, e]
      | false =>
        obtain ⟨w, g1, g2⟩ := k2 rfl
        refine ⟨w, ?_, g2, trivial⟩
        have g1' : cs[x.offset]? = some w := g1
        simp [Instr.field, run_underlying hu1, hu2, asAgg, part, a1, g1']
  · cases h

theorem repDs_map {ev : Operand → D} {ρ : Operand → Value} {cell : Addr → Option Value} {G : Nat → Prop} {get : Nat → Option Ob} (hev : ∀ x, RepD cell G get γ (ev x) (ρ x) ∧ (ev x).bnd B) : ∀ (l : List Operand), RepDs cell G get γ (l.map ev) (l.map ρ) ∧ bnds B (l.map ev)
  | [] => by simp [RepDs, bnds]
  | x :: l => by
    simp only [List.map_cons, RepDs, bnds]
    exact ⟨⟨_, _, rfl, (hev x).1, (repDs_map hev l).1⟩, (hev x).2, (repDs_map hev l).2⟩

set_option maxHeartbeats 1000000 in
/-- An operation that calls no Go function. -/
theorem mm_ok {mx : Bool} {x y d : D} {v u : Value} (h : xMM mx x y = some d) (hx : RepD W.cell? (Frz F S γ W) S.get γ x v) (hy : RepD W.cell? (Frz F S γ W) S.get γ y u) :
    ∃ w, (cond mx (Builtin.max2 v u) (Builtin.min2 v u)).run P W = .ok w W ∧ RepD W.cell? (Frz F S γ W) S.get γ d w ∧ d.bnd B := by
  unfold xMM at h
  split at h
  · rename_i k a k' b
    split at h
    · rename_i e
      subst e
      simp only [Option.some.injEq] at h
      subst h
      obtain ⟨rfl, ha⟩ := of_int hx
      obtain ⟨rfl, hb⟩ := of_int hy
      cases mx with
      | true =>
        refine ⟨.int k (maxI a b), by simp [Builtin.max2, maxI], rep_int ?_, trivial⟩
        unfold maxI
        split
        · exact hb
        · exact ha
      | false =>
        refine ⟨.int k (minI a b), by simp [Builtin.min2, minI], rep_int ?_, trivial⟩
        unfold minI
        split
        · exact hb
        · exact ha
    · cases h
  · cases h

theorem opB_ok (hp : Hp F B S γ W) (hf : ¬ B fid) {ev : Operand → D} {ρ : Operand → Value} (hev : ∀ x, RepD W.cell? (Frz F S γ W) S.get γ (ev x) (ρ x) ∧ (ev x).bnd B) (hgd : ∀ x s w e, ev x = .gd s w e → ρ (.tmp s) = .bool w → RepD W.cell? (Frz F S γ W) S.get γ e (ρ x)) {o : Oper} {r : Res} (h : opB P S.get fid ev o = some r) (hc : r.c = true) :
    OpOK F B S γ W fid ((execOp ρ o).run P W) r := by
  have plain : ∀ {d : D} {s : Sem Value} {v : Value}, s.run P W = .ok v W → RepD W.cell? (Frz F S γ W) S.get γ d v → d.bnd B → ∀ c, OpOK F B S γ W fid ((do pure (.value (← s)) : Sem Next).run P W) ⟨c, d, []⟩ := by
    intro d s v h1 h2 h3 c
    have : (do pure (.value (← s)) : Sem Next).run P W = .ok (.value v) W := by simp only [Sem.run_bind, h1, Result.andThen_ok, Sem.run_pure]
    rw [this]
    exact OpOK.same hp h2 h3
  unfold opB at h
  unfold execOp
  cases ho : o.op <;> rw [ho] at h <;> simp only [reduceCtorEq] at h ⊢
  case move x => simp only [Option.some.injEq] at h; subst h; exact OpOK.same hp (hev x).1 (hev x).2
  case assign x => simp only [Option.some.injEq] at h; subst h; exact OpOK.same hp (hev x).1 (hev x).2
  case pick c a b =>
    have un : ∀ (x w : Bool) (y : Operand) (p : Bool), ev c = .fz .bool x → unG c w (ev y) = .fz .bool p → x = w → ρ y = .bool p := by
      intro x w y p hxc hu hxw
      have h1 := (hev c).1
      rw [hxc] at h1
      have hcv := of_bool h1
      cases hy : ev y with
      | gd k u e =>
        rw [hy] at hu
        cases c with
        | tmp s =>
          simp only [unG] at hu
          cases hb : (Nat.beq k s && (u == w)) with
          | false => rw [hb] at hu; cases hu
          | true =>
            rw [hb] at hu
            simp only at hu
            rw [Bool.and_eq_true] at hb
            have e1 := Nat.eq_of_beq_eq_true hb.1
            have e2 : u = w := by simpa using hb.2
            subst e1; subst e2
            have := hgd y k u e hy (by rw [hcv, hxw])
            rw [hu] at this
            exact of_bool this
        | _ => simp [unG] at hu
      | fz t z =>
        rw [hy] at hu
        have hu' : D.fz t z = .fz .bool p := by cases c <;> simpa [unG] using hu
        have h2 := (hev y).1
        rw [hy, hu'] at h2
        exact of_bool h2
      | _ => rw [hy] at hu; cases c <;> simp [unG] at hu
    have hcv : ∀ x : Bool, ev c = .fz .bool x → ρ c = .bool x := fun x hxc => by
      have h1 := (hev c).1
      rw [hxc] at h1
      exact of_bool h1
    unfold xPick at h
    split at h
    · rename_i x p q hxc hpa hqb
      simp only [Option.some.injEq] at h
      subst h
      have r : (do pure (.value (if ← asBool (ρ c) then ρ a else ρ b)) : Sem Next).run P W = .ok (.value (.bool (cond x p q))) W := by
        rw [hcv x hxc]
        cases hxv : x with
        | true => simp [asBool, un x true a p hxc hpa hxv]
        | false => simp [asBool, un x false b q hxc hqb hxv]
      rw [r]
      exact OpOK.same hp rep_bool trivial
    · rename_i x p hxc hpa hqb
      simp only [Option.some.injEq] at h
      subst h
      simp only at hc
      subst hc
      have r : (do pure (.value (if ← asBool (ρ c) then ρ a else ρ b)) : Sem Next).run P W = .ok (.value (.bool p)) W := by
        rw [hcv true hxc]
        simp [asBool, un true true a p hxc hpa rfl]
      rw [r]
      exact OpOK.same hp rep_bool trivial
    · rename_i x q hxc hpa hqb
      simp only [Option.some.injEq] at h
      subst h
      have hx : x = false := by simpa using hc
      subst hx
      have r : (do pure (.value (if ← asBool (ρ c) then ρ a else ρ b)) : Sem Next).run P W = .ok (.value (.bool q)) W := by
        rw [hcv false hxc]
        simp [asBool, un false false b q hxc hqb rfl]
      rw [r]
      exact OpOK.same hp rep_bool trivial
    · cases h
  case alloc t =>
    cases hz : zeroD P t with
    | none => rw [hz] at h; simp at h
    | some ds =>
      rw [hz] at h
      simp only [Option.some.injEq] at h
      subst h
      exact alloc_ok hp hf hz
  case box t x =>
    cases hz : cellsD (ev x) with
    | none => rw [hz] at h; simp at h
    | some ds =>
      rw [hz] at h
      simp only at h
      cases hl : ds.all D.leaf with
      | false => rw [hl] at h; simp at h
      | true =>
        rw [hl] at h
        simp only [Option.some.injEq] at h
        subst h
        exact box_ok hp hf hz hl (hev x).1 (hev x).2
  case build t ps =>
    cases hz : xBuild P t (ps.toList.map fun p => (p.1, ev p.2)) with
    | none => rw [hz] at h; simp at h
    | some d =>
      rw [hz] at h
      simp only [Option.some.injEq] at h
      subst h
      obtain ⟨v, k1, k2, k3⟩ := build_ok hp hz (repP_map hev ps.toList)
      have e : (ps.toList.map fun (i, x) => (i, ρ x)).toArray = ps.map fun (i, x) => (i, ρ x) := by
        apply Array.ext'
        simp
      rw [e] at k1
      exact plain k1 k2 k3 _
  case buildSlice t len ps =>
    have := buildSlice_ok hp hf h (repP_map hev ps.toList)
    have e : (ps.toList.map fun (i, x) => (i, ρ x)).toArray = ps.map fun (i, x) => (i, ρ x) := by
      apply Array.ext'
      simp
    rw [e] at this
    exact this
  case load t p =>
    cases hz : xLoad P S.get t (unP (ev p)) with
    | none => rw [hz] at h; simp at h
    | some d =>
      rw [hz] at h
      simp only [Option.some.injEq] at h
      subst h
      obtain ⟨u1, u2⟩ := unP_rep (hev p).1 (hev p).2 hc
      obtain ⟨v, k1, k2, k3⟩ := load_ok hp u1 u2 hz
      exact plain k1 k2 k3 _
  case store t p x =>
    obtain ⟨W', k1, k2, k3, k4, k5⟩ := store_ok hp (hev p).1 (hev x).1 (hev p).2 (hev x).2 h
    refine ⟨.skip, W', γ, ?_, .inr ⟨rfl, k2⟩, k4, k5.mono (fun _ h => .inl h), by rw [k2]; trivial⟩
    simp only [Sem.run_bind, k1, Result.andThen_ok, Sem.run_pure]
  case nilCheck x =>
    exact nil_ok (f := fun v => match v with
      | .pointer none | .nilIface | .nilFunc => runtimePanic .nilDeref
      | .func (.method name) first captured =>
        match (first[0]? : Option Value) with
        | some .nilIface => runtimePanic .nilDeref
        | some (.iface t w) => do
          if (← nilAhead ((← program).types.size + Made.depth) t w name) != some false then
            unsupported (.noEntry "op/nilCheck.the method's receiver behind this interface value is a nil pointer, or cannot be seen to be none, and the arguments act or may panic (ledger 612)")
          pure (.value (.func (.method name) first captured))
        | _ => pure (.value (.func (.method name) first captured))
      | x => pure (.value x)) hp (fun a => rfl) h hc (hev x).1 (hev x).2
  case binOp op t x y yt =>
    cases hpn : xPN P S.get op t (ev x) (ev y) with
    | some b =>
      rw [hpn] at h
      simp only [Option.some.injEq] at h
      subst h
      have := xPN_ok (fid := fid) hp (ox := x) (oy := y) hpn (hev x).1 (hev y).1
      simpa only [bind_assoc] using this
    | none =>
    rw [hpn] at h
    simp only at h
    cases hns : xNilS P S.get op t (ev x) (ev y) with
    | some z =>
      rw [hns] at h
      simp only [Option.some.injEq] at h
      subst h
      have := xNilS_ok (fid := fid) hp (ox := x) (oy := y) hns (hev x).1 (hev y).1
      simpa only [bind_assoc] using this
    | none =>
    rw [hns] at h
    simp only at h
    cases hz : xBin P op t (ev x) (ev y) with
    | none => rw [hz] at h; simp at h
    | some q =>
      obtain ⟨c, d⟩ := q
      rw [hz] at h
      simp only [Option.some.injEq] at h
      subst h
      have := xBin_ok (fid := fid) hp (ox := x) (oy := y) hz hc (hev x).1 (hev y).1
      simpa only [bind_assoc] using this
  case unOp op t x =>
    cases hz : xUn op (ev x) with
    | none => rw [hz] at h; simp at h
    | some d =>
      rw [hz] at h
      simp only [Option.some.injEq] at h
      subst h
      obtain ⟨v, k1, k2, k3⟩ := un_ok (P := P) (W := W) (B := B) hz (hev x).1
      exact plain k1 k2 k3 _
  case convert s t x =>
    cases hz : xConv P s t (ev x) with
    | none => rw [hz] at h; simp at h
    | some d =>
      rw [hz] at h
      simp only [Option.some.injEq] at h
      subst h
      obtain ⟨v, k1, k2, k3⟩ := conv_ok (P := P) (W := W) (B := B) hz (hev x).1
      exact plain k1 k2 k3 _
  case fieldAddr s x f =>
    cases hz : fieldOf P s f with
    | none => rw [hz] at h; simp at h
    | some q =>
      obtain ⟨off, ft⟩ := q
      rw [hz] at h
      simp only at h
      cases hi : P.info? ft with
      | none => rw [hi] at h; simp at h
      | some i =>
        rw [hi] at h
        simp only at h
        cases h0 : Nat.beq i.size 0 with
        | true => rw [h0] at h; simp at h
        | false =>
          cases ha : xAddr S.get (ev x) off with
          | none => rw [h0, ha] at h; simp at h
          | some d =>
            rw [h0, ha] at h
            simp only [Option.some.injEq] at h
            subst h
            obtain ⟨v, k1, k2, k3⟩ := fieldAddr_ok hp hz hi h0 (hev x).1 (hev x).2 ha
            exact plain k1 k2 k3 _
  case field s x f =>
    cases hz : xField P s (ev x) f with
    | none => rw [hz] at h; simp at h
    | some d =>
      rw [hz] at h
      simp only [Option.some.injEq] at h
      subst h
      obtain ⟨v, k1, k2, k3⟩ := field_ok (P := P) (W := W) (B := B) hz (hev x).1
      exact plain k1 k2 k3 _
  case indexAddr t x i => exact indexAddr_ok hp h hc (hev x).1 (hev i).1 (hev x).2
  case index t x i =>
    cases hu : P.underlying t with
    | none => rw [hu] at h; simp at h
    | some u =>
      cases u <;> rw [hu] at h <;> (try simp only [reduceCtorEq] at h)
      cases hx : ev x with
      | fz tx s =>
        cases tx with
        | str =>
          cases hy : ev i with
          | fz ti n =>
            cases ti with
            | int k =>
              change Int at n
              change ByteArray at s
              rw [hx, hy] at h
              simp only [Option.some.injEq] at h
              subst h
              obtain ⟨i0, i1⟩ := inB_iff.1 hc
              have h1 := (hev x).1
              have h2 := (hev i).1
              rw [hx] at h1
              rw [hy] at h2
              have hlt : n.toNat < s.size := by omega
              have r : (Instr.index t (ρ x) (ρ i)).run P W = .ok (.int .u8 ((s[n.toNat]'hlt).toNat : Int)) W := by
                rw [(of_str h1).1, (of_int h2).1]
                simp [Instr.index, run_underlying hu, asIntOf, i0, hlt]
              simp only [hlt, dif_pos]
              refine plain r (rep_int ?_) trivial _
              have := (s[n.toNat]'hlt).toNat_lt
              unfold fits
              simp [IntKind.min, IntKind.max, IntKind.signed, IntKind.bits]
              omega
            | _ => rw [hx, hy] at h; simp at h
          | _ => rw [hx, hy] at h; simp at h
        | _ => rw [hx] at h; simp at h
      | _ => rw [hx] at h; simp at h
  case slice t x lo hi mx =>
    cases mx with
    | some _ => simp at h
    | none =>
      refine slice_ok hp hf h hc (hev x).1 (fun d hd => ?_) (fun e => ?_) (fun d hd => ?_) (fun e => ?_)
      · cases lo with
        | none => simp at hd
        | some a => simp only [Option.map_some, Option.some.injEq] at hd; subst hd; exact ⟨_, rfl, (hev a).1⟩
      · cases lo with
        | none => rfl
        | some a => simp at e
      · cases hi with
        | none => simp at hd
        | some a => simp only [Option.map_some, Option.some.injEq] at hd; subst hd; exact ⟨_, rfl, (hev a).1⟩
      · cases hi with
        | none => rfl
        | some a => simp at e
  case makeSlice t l c => exact make_ok hp hf h hc (hev l).1 (hev c).1
  case makeInterface t x =>
    have fin : ∀ u, P.underlying t = some u → (∀ a, u ≠ .interface a) → OpOK F B S γ W fid ((do pure (.value (← Instr.makeInterface t (ρ x))) : Sem Next).run P W) ⟨true, .ifc t (ev x), []⟩ := fun u hu hn => by
      have hrun : (Instr.makeInterface t (ρ x)).run P W = .ok (.iface t (ρ x)) W := by
        simp only [Instr.makeInterface, Sem.run_bind, run_underlying hu, Result.andThen_ok]
        cases u <;> first | rfl | exact (hn _ rfl).elim
      exact plain hrun (show RepD W.cell? (Frz F S γ W) S.get γ (.ifc t (ev x)) (.iface t (ρ x)) from by simp only [RepD]; exact ⟨_, rfl, (hev x).1⟩) (hev x).2 true
    split at h
    · rename_i hu
      simp only [Option.some.injEq] at h
      subst h
      exact fin _ hu (fun _ e => by cases e)
    · rename_i hu
      simp only [Option.some.injEq] at h
      subst h
      exact fin _ hu (fun _ e => by cases e)
    · rename_i hu
      simp only [Option.some.injEq] at h
      subst h
      exact fin _ hu (fun _ e => by cases e)
    · cases h
  case typeAssert x xt t ok =>
    cases ok with
    | false => simp at h
    | true =>
      simp only at h
      split at h
      · rename_i k t' d hu hx
        split at h
        · rename_i ht
          simp only [Option.some.injEq] at h
          subst h
          have ht := Nat.eq_of_beq_eq_true ht
          subst ht
          have h1 := hev x
          rw [hx] at h1
          simp only [RepD, D.bnd] at h1
          obtain ⟨⟨w, hw, h2⟩, h3⟩ := h1
          have hrun : (Instr.typeAssert (ρ x) xt t' true).run P W = .ok (.tuple #[w, .bool true]) W := by
            simp only [Instr.typeAssert, Sem.run_bind, run_underlying hu, Result.andThen_ok, hw]
            simp
          exact plain hrun (show RepD W.cell? (Frz F S γ W) S.get γ (.tup [d, .fz .bool true]) (.tuple #[w, .bool true]) from by
            have hb : RepD W.cell? (Frz F S γ W) S.get γ (.fz .bool true) (.bool true) := rep_bool
            unfold RepD
            exact ⟨[w, .bool true], rfl, w, [.bool true], rfl, h2, .bool true, [], rfl, hb, rfl⟩) (show bnds B [d, .fz .bool true] from ⟨h3, trivial, trivial⟩) true
        · cases h
      · cases h
  case extract x i =>
    cases hx : ev x with
    | tup ds =>
      rw [hx] at h
      simp only at h
      cases hd : ds[i]? with
      | none => rw [hd] at h; simp at h
      | some d =>
        rw [hd] at h
        simp only [Option.some.injEq] at h
        subst h
        have h1 := hev x
        rw [hx] at h1
        simp only [RepD, D.bnd] at h1
        obtain ⟨⟨vs, e, r1⟩, r2⟩ := h1
        obtain ⟨v, hv, rv⟩ := r1.nth i d hd
        refine plain (v := v) ?_ rv (bnds_get r2 hd) _
        rw [e]
        simp [Instr.extract, hv]
    | _ => rw [hx] at h; simp at h
  case makeFunc fn first caps =>
    cases fn with
    | func f =>
      simp only at h
      cases hl : first.toList with
      | cons _ _ => rw [hl] at h; simp at h
      | nil =>
        rw [hl] at h
        simp only [Option.some.injEq] at h
        subst h
        have hf0 : first = #[] := by
          apply Array.ext'
          simpa using hl
        subst hf0
        have k := repDs_map (γ := γ) (B := B) hev caps.toList
        refine plain (v := .func (.func f) #[] (caps.map ρ)) (by simp [Instr.makeFunc]) ?_ ?_ _
        · simp only [RepD]
          exact ⟨caps.toList.map ρ, by congr 1; apply Array.ext'; simp, k.1⟩
        · simpa only [D.bnd] using k.2
    | _ => simp at h
  case call c =>
    cases hcl : c.callee with
    | builtin b =>
      rw [hcl] at h
      cases b <;> (try simp only [reduceCtorEq] at h)
      case len =>
        cases hargs : c.args.toList with
        | nil => rw [hargs] at h; simp at h
        | cons x rest =>
          cases rest with
          | cons _ _ => rw [hargs] at h; simp at h
          | nil =>
            rw [hargs] at h
            simp only at h
            cases hts : c.argTypes.toList with
            | nil => rw [hts] at h; simp at h
            | cons t rest =>
              cases rest with
              | cons _ _ => rw [hts] at h; simp at h
              | nil =>
                rw [hts] at h
                simp only at h
                cases hz : xLen P S.get t (ev x) with
                | none => rw [hz] at h; simp at h
                | some d =>
                  rw [hz] at h
                  simp only [Option.some.injEq] at h
                  subst h
                  obtain ⟨v, k1, k2, k3⟩ := len_ok hp hz (hev x).1 o.type
                  have ea : c.args = #[x] := by apply Array.ext'; simpa using hargs
                  have et : c.argTypes = #[t] := by apply Array.ext'; simpa using hts
                  have := plain k1 k2 k3 true
                  simpa [resolve, hcl, ea, et, invoke, builtin] using this
      case max =>
        cases hargs : c.args.toList with
        | nil => rw [hargs] at h; simp at h
        | cons x rest =>
          cases rest with
          | nil => rw [hargs] at h; simp at h
          | cons y rest =>
            cases rest with
            | cons _ _ => rw [hargs] at h; simp at h
            | nil =>
              rw [hargs] at h
              simp only at h
              cases hz : xMM true (ev x) (ev y) with
              | none => rw [hz] at h; simp at h
              | some d =>
                rw [hz] at h
                simp only [Option.some.injEq] at h
                subst h
                obtain ⟨v, k1, k2, k3⟩ := mm_ok (B := B) (W := W) hz (hev x).1 (hev y).1
                have ea : c.args = #[x, y] := by apply Array.ext'; simpa using hargs
                have := plain (s := Builtin.max2 (ρ x) (ρ y)) (by simpa using k1) k2 k3 true
                simpa [resolve, hcl, ea, invoke, builtin, Builtin.max_] using this
      case min =>
        cases hargs : c.args.toList with
        | nil => rw [hargs] at h; simp at h
        | cons x rest =>
          cases rest with
          | nil => rw [hargs] at h; simp at h
          | cons y rest =>
            cases rest with
            | cons _ _ => rw [hargs] at h; simp at h
            | nil =>
              rw [hargs] at h
              simp only at h
              cases hz : xMM false (ev x) (ev y) with
              | none => rw [hz] at h; simp at h
              | some d =>
                rw [hz] at h
                simp only [Option.some.injEq] at h
                subst h
                obtain ⟨v, k1, k2, k3⟩ := mm_ok (B := B) (W := W) hz (hev x).1 (hev y).1
                have ea : c.args = #[x, y] := by apply Array.ext'; simpa using hargs
                have := plain (s := Builtin.min2 (ρ x) (ρ y)) (by simpa using k1) k2 k3 true
                simpa [resolve, hcl, ea, invoke, builtin, Builtin.min_] using this
      case append =>
        cases hargs : c.args.toList with
        | nil => rw [hargs] at h; simp at h
        | cons s rest =>
          cases rest with
          | nil => rw [hargs] at h; simp at h
          | cons x rest =>
            cases rest with
            | cons _ _ => rw [hargs] at h; simp at h
            | nil =>
              rw [hargs] at h
              simp only at h
              cases hts : c.argTypes.toList with
              | nil => rw [hts] at h; simp at h
              | cons t rest =>
                cases rest with
                | nil => rw [hts] at h; simp at h
                | cons t' rest =>
                  cases rest with
                  | cons _ _ => rw [hts] at h; simp at h
                  | nil =>
                    rw [hts] at h
                    simp only at h
                    cases hu : P.underlying t' with
                    | none => rw [hu] at h; simp at h
                    | some u =>
                      cases u <;> rw [hu] at h <;> simp only [reduceCtorEq] at h
                      have := append_ok hp hf hu h hc (hev s).1 (hev x).1 o.type
                      have ea : c.args = #[s, x] := by apply Array.ext'; simpa using hargs
                      have et : c.argTypes = #[t, t'] := by apply Array.ext'; simpa using hts
                      simpa [resolve, hcl, ea, et, invoke, builtin] using this
    | value f => rw [hcl] at h; simp at h
    | invoke r n => rw [hcl] at h; simp at h
theorem opE_ok (hp : Hp F B S γ W) (hf : ¬ B fid) {ev : Operand → D} {ρ : Operand → Value} (hev : ∀ x, RepD W.cell? (Frz F S γ W) S.get γ (ev x) (ρ x) ∧ (ev x).bnd B) (hgd : ∀ x s w e, ev x = .gd s w e → ρ (.tmp s) = .bool w → RepD W.cell? (Frz F S γ W) S.get γ e (ρ x)) {o : Oper} {r : Res} (h : opE P S.get fid ev o = some r) (hc : r.c = true) :
    OpOK F B S γ W fid ((execOp ρ o).run P W) r := by
  unfold opE at h
  split at h
  · rename_i r' h'
    simp only [Option.some.injEq] at h
    subst h
    exact opB_ok hp hf hev hgd h' hc
  · split at h
    · simp only [Option.some.injEq] at h
      subst h
      cases hc
    · cases h
end
end Go.XD


