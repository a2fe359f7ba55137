/- For every input the law CondTells returns true, and its arguments read as they did: no condition. -/
import Derived.Shelf.Sort.Plain
import Derived.Shelf.Slices.In.SortNone
import Derived.Shelf.Slices.CompactI
import Derived.Test.YtcongaiganloaaaProg
import Derived.KernelRfl
import Derived.Test.YtcongaiganloaaaKe
set_option linter.unusedVariables false
set_option linter.unusedSimpArgs false
set_option linter.unusedSectionVars false
set_option linter.unnecessarySimpa false
set_option linter.deprecated false
set_option maxRecDepth 100000
/- slices.Sort of whole numbers, by the library's own contract. -/
namespace Go.XD
open Go.Sort Go.Proofs

section
variable {P : Program} {F : Fm} {B : Nat → Prop} {S : St} {γ : Gam} {W W' : World}

/-- New blocks behind the heap. -/
theorem Hp.grow (hp : Hp F B S γ W) (os : Array Obj) (h1 : W'.heap = W.heap ++ os) (ho : W'.os = W.os) (ht : W'.tape = W.tape) (hout : W'.output = W.output) : Stp F B S γ W S γ W' ∧ Hp F B S γ W' := by
  have hold : ∀ b, b < W.heap.size → W'.heap[b]? = W.heap[b]? := fun b hb => by rw [h1, Array.getElem?_append_left hb]
  have hst : Stp F B S γ W S γ W' := ⟨fun id _ ob h => ⟨ob, h, like_refl _, rfl⟩, ho, ht, hout, by rw [h1]; simp, fun b hb _ => hold b hb, fun b h => .inl h⟩
  exact ⟨hst, hst.hp hp (fun _ h => h) (fun id ob ho => hst.ob hp ho rfl (fun g c hg => hold g (hp.blt ho hg))) hp.inj hp.nd hp.obsB⟩

theorem Hp.ext' {B : Nat → Prop} {S S' : St} {γ : Gam} {W : World} (hp : Hp F B S γ W) (h : ∀ id, S'.get id = S.get id) : Hp F B S' γ W := by
  have e1 : S'.get = S.get := funext h
  have e2 : tracked S' γ = tracked S γ := by funext b; unfold tracked; rw [e1]
  have e3 : Frz F S' γ W = Frz F S γ W := by funext b; unfold Frz; rw [e2]
  exact ⟨by rw [e1, e3]; exact hp.obs, by rw [e1]; exact hp.inj, by rw [e1]; exact hp.nd, by rw [e2]; exact hp.trk, hp.kept, by rw [e1]; exact hp.obsB⟩
@[simp] theorem srt_len (l : List Int) : (srt l).length = l.length := by simp [srt]
theorem sort_write (hp : Hp F B S γ W) {id g c : Nat} {xs : List Int} {vs : Array Value} {t : TypeId} (hg : S.get id = some (.buf (.int .i64) xs)) (e1 : γ id = [(g, c)]) (e3 : W.heap[g]? = some (.cells vs t (0, 0))) (e4 : xs.length ≤ c) (e5 : c * (Ty.int .i64).cells ≤ vs.size) (e6 : xs.length ≤ 140737488355328) (e7 : RepL W.cell? (Frz F S γ W) (.int .i64) xs (fun j => vs[j]?))
    (n m : Nat) (os : Array Obj) : Stp F B S γ W ⟨n, (id, some (.buf (.int .i64) (srt xs))) :: S.m⟩ γ (Sort.grow (putRow (Value.int .i64) (Sort.ahead W m) g 0 (srt xs).toArray) os) ∧
      Hp F B ⟨n, (id, some (.buf (.int .i64) (srt xs))) :: S.m⟩ γ (Sort.grow (putRow (Value.int .i64) (Sort.ahead W m) g 0 (srt xs).toArray) os) := by
  have hgl : g < W.heap.size := hp.blt hg (by rw [e1]; exact List.mem_cons_self)
  have e5' : c ≤ vs.size := by simpa [Ty.cells] using e5
  have hfit : ∀ x ∈ srt xs, fits .i64 x := fun x hx => by
    have hx' : x ∈ xs := by simpa [srt] using hx
    obtain ⟨i, hi, rfl⟩ := List.getElem_of_mem hx'
    exact (e7 i xs[i] (List.getElem?_eq_getElem hi)).2
  have h0 := hp.write (W' := putRow (Value.int .i64) (Sort.ahead W m) g 0 (srt xs).toArray) n (ob' := .buf (.int .i64) (srt xs)) (vs' := putCells (Value.int .i64) 0 (srt xs).toArray vs) (t := t) hg e1 (by simp [like]) (by
      simp only [putRow, mapBlock, Sort.ahead]
      rw [Array.getElem?_modify, if_pos rfl, e3]
      rfl) (fun b hb => by
      simp only [putRow, mapBlock, Sort.ahead]
      rw [Array.getElem?_modify, if_neg (Ne.symm hb)]) (by simp [putRow, mapBlock, Sort.ahead]) rfl rfl rfl (by
      refine ⟨by simpa using e4, by simpa [putCells, Ty.cells] using e5', by simpa using e6, fun i x hx => ?_⟩
      have hi : i < xs.length := by
        have : i < (srt xs).length := by
          rcases Nat.lt_or_ge i (srt xs).length with h | h
          · exact h
          · rw [List.getElem?_eq_none h] at hx; cases hx
        simpa using this
      refine ⟨?_, hfit x (List.mem_of_getElem? hx)⟩
      have hx2 : (srt xs).toArray[i]! = x := by
        simp [getElem!_def, hx]
      simp only [putCells, Ty.cells, Nat.mul_one, Nat.add_zero]
      rw [Array.getElem?_mapIdx]
      have hiv : i < vs.size := by omega
      rw [Array.getElem?_eq_getElem hiv]
      simp only [Option.map_some, Nat.zero_le, true_and, List.size_toArray, srt_len, Nat.zero_add, hi, if_true, Nat.sub_zero, hx2])
  obtain ⟨k1, k2⟩ := h0
  obtain ⟨k3, k4⟩ := k2.grow (W' := Sort.grow (putRow (Value.int .i64) (Sort.ahead W m) g 0 (srt xs).toArray) os) os rfl rfl rfl rfl
  exact ⟨k1.trans k3, k4⟩

theorem hp_ins {fid : Nat} (hp : Hp F B S γ W) : Hp F (ins B fid) S γ W := hp.mono fun id h => .inl h
theorem sort_ok {ρ : Go.Shelf.Ren} (Ly : Lays.n189 P ρ) {fn : Func} (h1 : P.funcs[ρ.f 189]? = some fn) (h2 : (fn.name == "runtime.NumGoroutine") = false) (h3 : fn.body.isNone = false) : NatOK P (ρ.f 189) 0 := by
  refine ⟨⟨fn, h1, h2, h3⟩, fun {F B S γ W fid d v r} hp hf hv h => ?_⟩
  have tup : ∀ {c : Addr → Option Value} {G : Nat → Prop} {look : Nat → Option Ob} {γ' : Gam}, RepD c G look γ' (.tup []) (.tuple #[]) := by
    intros
    simp only [RepD]
    exact ⟨[], rfl, by simp only [RepDs]⟩
  cases d with
  | nils =>
    simp only [natR, Option.some.injEq] at h
    subst h
    simp only [RepD] at hv
    subst hv
    refine Calls.mono (Any.slices_Sort_int_none Ly none 0 W) ?_
    rintro e W' ⟨rfl, rfl⟩
    exact ⟨_, γ, rfl, Stp.refl F _ S γ _, hp_ins hp, tup, trivial⟩
  | sf id =>
    have hv' := hv
    simp only [RepD] at hv'
    obtain ⟨_, hv'⟩ := hv'
    simp only [natR] at h
    cases hg : S.get id with
    | none => rw [hg] at h; simp at h
    | some ob =>
      cases ob with
      | cells ds => rw [hg] at h; simp at h
      | arr _ _ _ => rw [hg] at h; simp at h
      | opt _ _ => rw [hg] at h; simp at h
      | mp _ _ _ _ => rw [hg] at h; simp at h
      | bh _ _ _ _ _ => rw [hg] at h; simp at h
      | buf e xs =>
        rw [hg] at hv' h
        simp only at hv' h
        by_cases he : e = .int .i64
        · subst he
          have hc : castT (.lst (.int .i64)) (.lst (.int .i64)) xs = some xs := by simp [castT]
          rw [hc] at h
          simp only [Option.some.injEq] at h
          subst h
          rcases hv' with ⟨g, c, r1, rfl⟩ | ⟨r1, a0, rfl⟩
          · rcases hp.obs id _ hg with ⟨q1, rfl⟩ | ⟨g', c', cur, tt, q1, q2, q3, q4, q5, q6⟩
            · first | exact (hd_ne r1 q1).elim | exact (hd_ne' r1 q1).elim
            · have q1h := hd_one q1
              rw [r1] at q1h
              simp only [Option.some.injEq, Prod.mk.injEq] at q1h
              obtain ⟨rfl, rfl⟩ := q1h
              have hgl : g < W.heap.size := hp.blt hg (hd_mem r1)
              have q4' : c ≤ cur.size := by simpa [Ty.cells] using q4
              refine Calls.mono (Any.slices_Sort_int Ly g 0 c xs W (fun j hj => ?_) hgl (by omega)) ?_
              · have hj' : j < xs.length := by simpa using hj
                have := (q6 j xs[j] (List.getElem?_eq_getElem hj')).1
                simp only [Ty.cells, Nat.mul_one, Nat.add_zero] at this
                refine ⟨?_, ?_⟩
                · simp only [World.cell?, q2]
                  rw [Nat.zero_add, this]
                  simp [getElem!_def, hj']
                · simp [World.frozen?, q2]
              · rintro e W' ⟨rfl, n, os, rfl⟩
                obtain ⟨k1, k2⟩ := sort_write hp hg q1 q2 q3 q4 q5 q6 S.nx n os
                exact ⟨_, γ, rfl, k1, hp_ins k2, tup, trivial⟩
          · rcases hp.obs id _ hg with ⟨q1, rfl⟩ | ⟨g', c', cur, tt, q1, _⟩
            · refine Calls.mono (Any.slices_Sort_int_none Ly a0 0 W) ?_
              rintro e W' ⟨rfl, rfl⟩
              have hext : ∀ k, St.get ⟨S.nx, (id, some (.buf (.int .i64) (srt []))) :: S.m⟩ k = S.get k := fun k => by
                have hsr : srt [] = [] := by simp [srt]
                rw [hsr, get_cons]
                by_cases e : id = k
                · subst e
                  rw [if_pos rfl]
                  exact hg.symm
                · rw [if_neg e]
                  rfl
              exact ⟨_, γ, rfl, (Stp.refl F _ S γ _).ext (fun _ => rfl) hext, hp_ins (hp.ext' hext), tup, trivial⟩
            · first | exact (hd_ne r1 q1).elim | exact (hd_ne' r1 q1).elim
        · simp [castT, he] at h
  | _ => simp [natR] at h

/-! ### slices.Compact -/
theorem cpt_len (l : List Int) : (cpt l).length ≤ l.length := by
  unfold cpt Lib.compact Lib.compactUpTo
  rw [List.length_map]
  exact Nat.le_trans (List.length_filter_le _ _) (by simp)
theorem cpt_mem {l : List Int} {x : Int} (h : x ∈ cpt l) : x ∈ l := by
  unfold cpt Lib.compact Lib.compactUpTo at h
  obtain ⟨i, hi, rfl⟩ := List.mem_map.1 h
  have := List.mem_range.1 (List.mem_filter.1 hi).1
  simp [getElem!_def, this]
theorem compact_ok {ρ : Go.Shelf.Ren} (Ly : Lays2.n20 P ρ) {fn : Func} (h1 : P.funcs[ρ.f 20]? = some fn) (h2 : (fn.name == "runtime.NumGoroutine") = false) (h3 : fn.body.isNone = false) : NatOK P (ρ.f 20) 1 := by
  refine ⟨⟨fn, h1, h2, h3⟩, fun {F B S γ W fid d v r} hp hf hv h => ?_⟩
  cases d with
  | nils =>
    simp only [natR, Option.some.injEq] at h
    subst h
    simp only [RepD] at hv
    subst hv
    refine Calls.mono (Any.slices_Compact_int_empty Ly none 0 W) ?_
    rintro e W' ⟨rfl, rfl⟩
    exact ⟨_, γ, rfl, Stp.refl F _ S γ _, hp_ins hp, by simp only [RepD], trivial⟩
  | sf id =>
    have hv' := hv
    simp only [RepD] at hv'
    obtain ⟨_, hv'⟩ := hv'
    simp only [natR] at h
    cases hg : S.get id with
    | none => rw [hg] at h; simp at h
    | some ob =>
      cases ob with
      | cells ds => rw [hg] at h; simp at h
      | arr _ _ _ => rw [hg] at h; simp at h
      | opt _ _ => rw [hg] at h; simp at h
      | mp _ _ _ _ => rw [hg] at h; simp at h
      | bh _ _ _ _ _ => rw [hg] at h; simp at h
      | buf e xs =>
        rw [hg] at hv' h
        simp only at hv' h
        by_cases he : e = .int .i64
        · subst he
          have hc : castT (.lst (.int .i64)) (.lst (.int .i64)) xs = some xs := by simp [castT]
          rw [hc] at h
          simp only [Option.some.injEq] at h
          subst h
          rcases hv' with ⟨g, c, r1, rfl⟩ | ⟨r1, a0, rfl⟩
          · rcases hp.obs id _ hg with ⟨q1, rfl⟩ | ⟨g', c', cur, tt, q1, q2, q3, q4, q5, q6⟩
            · first | exact (hd_ne r1 q1).elim | exact (hd_ne' r1 q1).elim
            · have q1h := hd_one q1
              rw [r1] at q1h
              simp only [Option.some.injEq, Prod.mk.injEq] at q1h
              obtain ⟨rfl, rfl⟩ := q1h
              have hgl : g < W.heap.size := hp.blt hg (hd_mem r1)
              have q4' : c ≤ cur.size := by simpa [Ty.cells] using q4
              have hcl := cpt_len xs
              refine Calls.mono (Any.slices_Compact_int Ly g 0 c xs W (fun j hj => ?_) (by omega) q3) ?_
              · have hj' : j < xs.length := by simpa using hj
                have := (q6 j xs[j] (List.getElem?_eq_getElem hj')).1
                simp only [Ty.cells, Nat.mul_one, Nat.add_zero] at this
                refine ⟨?_, ?_⟩
                · simp only [World.cell?, q2]
                  rw [Nat.zero_add, this]
                  simp [getElem!_def, hj']
                · simp [World.frozen?, q2]
              · rintro e W' ⟨rfl, n, rfl⟩
                obtain ⟨k1, k2⟩ := hp.move (fid := fid) hf S.nx (e := .int .i64) (xs := cpt xs) (W' := putRow (Value.int .i64) (Sort.ahead W n) g 0 (Lib.compact xs ++ List.replicate (xs.length - (Lib.compact xs).length) 0).toArray) (vs' := putCells (Value.int .i64) 0 (Lib.compact xs ++ List.replicate (xs.length - (Lib.compact xs).length) 0).toArray cur) (t := tt) hg q1 (by
                  simp only [putRow, mapBlock, Sort.ahead]
                  rw [Array.getElem?_modify, if_pos rfl, q2]
                  rfl) (fun b hb => by
                  simp only [putRow, mapBlock, Sort.ahead]
                  rw [Array.getElem?_modify, if_neg (Ne.symm hb)]) (by simp [putRow, mapBlock, Sort.ahead]) rfl rfl rfl (by
                  refine ⟨by omega, by simpa [putCells, Ty.cells] using q4', by omega, fun i x hx => ?_⟩
                  have hi : i < (cpt xs).length := by
                    rcases Nat.lt_or_ge i (cpt xs).length with h | h
                    · exact h
                    · rw [List.getElem?_eq_none h] at hx; cases hx
                  have hxm : x ∈ xs := cpt_mem (List.mem_of_getElem? hx)
                  refine ⟨?_, by
                    obtain ⟨i, hi, rfl⟩ := List.getElem_of_mem hxm
                    exact (q6 i xs[i] (List.getElem?_eq_getElem hi)).2⟩
                  have hcl' : (Lib.compact xs).length ≤ xs.length := hcl
                  have hi' : i < (Lib.compact xs).length := hi
                  have hx2 : (Lib.compact xs ++ List.replicate (xs.length - (Lib.compact xs).length) 0).toArray[i]! = x := by
                    have : (Lib.compact xs)[i]? = some x := hx
                    simp [getElem!_def, List.getElem?_append_left hi', this]
                  simp only [putCells, Ty.cells, Nat.mul_one, Nat.add_zero]
                  rw [Array.getElem?_mapIdx]
                  have hiv : i < cur.size := by omega
                  rw [Array.getElem?_eq_getElem hiv]
                  have hsz2 : (Lib.compact xs ++ List.replicate (xs.length - (Lib.compact xs).length) 0).toArray.size = xs.length := by simp; omega
                  simp only [Option.map_some, Nat.zero_le, true_and, hsz2, Nat.zero_add, show i < xs.length from by omega, if_true, Nat.sub_zero, hx2])
                exact ⟨_, _, rfl, k1, k2, by
                  simp only [RepD]
                  show _ ∧ _
                  rw [List.cons_append, get_cons, if_pos rfl]
                  exact ⟨rfl, .inl ⟨g, c, updG_hd _ _ _, rfl⟩⟩, .inr rfl⟩
          · rcases hp.obs id _ hg with ⟨q1, rfl⟩ | ⟨g', c', cur, tt, q1, _⟩
            · obtain ⟨k1, k2⟩ := hp.allocNone (fid := fid) hf S.nx (.int .i64)
              have hp2 := k2.sub ⟨S.nx, (fid, some (.buf (.int .i64) (cpt []))) :: (id, none) :: S.m⟩ (fun k ob hk => by
                have hsr : cpt [] = [] := rfl
                rw [hsr, get_cons] at hk
                rw [get_cons]
                by_cases e : fid = k
                · rw [if_pos e] at hk ⊢
                  exact hk
                · rw [if_neg e, getM_cons] at hk
                  rw [if_neg e]
                  by_cases e2 : id = k
                  · rw [if_pos e2] at hk; cases hk
                  · rw [if_neg e2] at hk; exact hk)
              refine Calls.mono (Any.slices_Compact_int_empty Ly a0 0 W) ?_
              rintro e W' ⟨rfl, rfl⟩
              exact ⟨_, _, rfl, k1.trans (hp2.1.weak fun id h => .inl h), hp2.2, by
                simp only [RepD]
                rw [List.cons_append, get_cons, if_pos rfl]
                exact ⟨rfl, .inr ⟨updG_hd0 _ _, a0, rfl⟩⟩, .inr rfl⟩
            · first | exact (hd_ne r1 q1).elim | exact (hd_ne' r1 q1).elim
        · simp [castT, he] at h
  | _ => simp [natR] at h
end
end Go.XD

/- A slice of whole numbers sorted, and compacted: by a function that calls both. -/
namespace Go.XD

section
variable {P : Program} {F : Fm} {B : Nat → Prop} {S : St} {γ : Gam} {W : World}
theorem tidy_parts {fid : Nat} {d : D} {r : Res} (hp : Hp F B S γ W) (h : natR S.get fid 3 d = some r) : d.bnd B ∧ (d = .nils ∨ ∃ id, d = .sf id) ∧
    ∃ r1 r2, natR S.get fid 0 d = some r1 ∧ natR (St.get ⟨S.nx, r1.u ++ S.m⟩) fid 1 d = some r2 ∧ r.d = r2.d ∧ (∀ k, St.get ⟨S.nx, r2.u ++ (r1.u ++ S.m)⟩ k = St.get ⟨S.nx, r.u ++ S.m⟩ k) ∧
      (∀ id ob, St.get ⟨S.nx, r1.u ++ S.m⟩ id = some ob → B id ∧ bnds B ob.dsOf) := by
  cases d with
  | nils =>
    simp only [natR, Option.some.injEq] at h
    subst h
    exact ⟨trivial, .inl rfl, _, _, rfl, rfl, rfl, fun _ => rfl, fun id ob ho => hp.obsB id ob ho⟩
  | sf id =>
    simp only [natR] at h
    split at h
    · rename_i e xs ho
      split at h
      · rename_i ys hc
        simp only [Option.some.injEq] at h
        subst h
        have h1 : natR S.get fid 0 (.sf id) = some ⟨true, .tup [], [(id, some (.buf (.int .i64) (srt ys)))]⟩ := by
          simp only [natR]
          rw [ho]
          simp only
          rw [hc]
        have h2 : natR (St.get ⟨S.nx, [(id, some (.buf (.int .i64) (srt ys)))] ++ S.m⟩) fid 1 (.sf id) = some ⟨true, .sf fid, [(fid, some (.buf (.int .i64) (cpt (srt ys)))), (id, none)]⟩ := by
          have hg : St.get ⟨S.nx, [(id, some (.buf (.int .i64) (srt ys)))] ++ S.m⟩ id = some (.buf (.int .i64) (srt ys)) := by
            rw [List.cons_append, get_cons, if_pos rfl]
          have hcc : castT (.lst (.int .i64)) (.lst (.int .i64)) (srt ys) = some (srt ys) := by simp [castT]
          simp only [natR]
          rw [hg]
          simp only
          rw [hcc]
        have hB : B id := (hp.obsB id _ ho).1
        refine ⟨hB, .inr ⟨id, rfl⟩, _, _, h1, h2, rfl, fun k => ?_, fun i ob hi => ?_⟩
        · simp only [List.cons_append, List.nil_append]
          rw [get_cons, get_cons, getM_cons, getM_cons, getM_cons]
          by_cases e1 : fid = k
          · rw [if_pos e1, if_pos e1]
          · rw [if_neg e1, if_neg e1]
            by_cases e2 : id = k
            · rw [if_pos e2, if_pos e2]
            · rw [if_neg e2, if_neg e2, if_neg e2]
        · rw [List.cons_append, get_cons] at hi
          split at hi
          · rename_i e1
            subst e1
            simp only [Option.some.injEq] at hi
            subst hi
            exact ⟨hB, trivial⟩
          · exact hp.obsB i ob hi
      · cases h
    · cases h
  | _ => simp [natR] at h

theorem Hp.fm (hp : Hp F B S γ W) (n : Nat) : Hp ⟨F.W, F.T, F.G, n, F.gt⟩ B S γ W :=
  ⟨hp.obs, hp.inj, hp.nd, hp.trk, ⟨hp.kept.os, hp.kept.tape, hp.kept.output, hp.kept.size, hp.kept.block⟩, hp.obsB⟩
theorem mv_wp {o : Oper} {x : Operand} (h : o.op = .move x ∨ o.op = .assign x) {a : Act} {W : World} {next : Act → World → Prop} {Q : Exit → Act → World → Prop} (hn : next (a.put o.dst (a.eval x)) W) : o.wp P a W next Q := by
  have e : (execOp a.eval o).run P W = .ok (.value (a.eval x)) W := by
    unfold execOp
    rcases h with h | h <;> rw [h] <;> rfl
  unfold Oper.wp
  rw [e, Oper.upon_value]
  exact hn
theorem wp1 {ops : Array Oper} {o : Oper} {i : Nat} {rest : List Nat} {a : Act} {W : World} {Q : Exit → Act → World → Prop} (ho : ops[i]? = some o) (hg : o.guard = none) (h : o.wp P a W (wpOps P ops Q rest) Q) : wpOps P ops Q (i :: rest) a W := by
  unfold wpOps
  rw [ho]
  simp only
  rw [if_pos (by simp [Region.wanted, hg])]
  exact .inl h

theorem tidy_ok {n fs fc : FuncId} {fn : Func} (hs : NatOK P fs 0) (hc : NatOK P fc 1) (h1 : P.funcs[n]? = some fn) (h2 : (fn.name == "runtime.NumGoroutine") = false) {i0 i1 i2 : Nat} {o0 o1 o2 o3 o4 o5 : Oper} {z : Value} {ts tc : Array TypeId}
    (h3 : fn.body = some (.seq (.region i0 #[o0] false) (.seq (.region i1 #[o1, o2] false) (.seq (.region i2 #[o3, o4, o5] false) .ret)))) (h4 : fn.ntmps = 7) (h5 : fn.results = #[.tmp 2])
    (g : o0.guard = none ∧ o1.guard = none ∧ o2.guard = none ∧ o3.guard = none ∧ o4.guard = none ∧ o5.guard = none)
    (e0 : o0.op = .assign (.const z)) (e1 : o1.op = .move (.tmp 0)) (e2 : o2.op = .call ⟨.value (.func fs), #[.tmp 3], ts⟩) (e3 : o3.op = .move (.tmp 0)) (e4 : o4.op = .call ⟨.value (.func fc), #[.tmp 5], tc⟩) (e5 : o5.op = .assign (.tmp 6))
    (d0 : o0.dst = some 2) (d1 : o1.dst = some 3) (d2 : o2.dst = some 4) (d3 : o3.dst = some 5) (d4 : o4.dst = some 6) (d5 : o5.dst = some 2) : NatOK P n 3 := by
  refine ⟨⟨fn, h1, h2, by rw [h3]; rfl⟩, fun {F B S γ W fid d v r} hp hf hv h => ?_⟩
  obtain ⟨g0, g1, g2, g3, g4, g5⟩ := g
  obtain ⟨hbd, hd, r1, r2, k1, k2, k3, k4, k5⟩ := tidy_parts hp h
  have hng : d.isGd = false := by rcases hd with rfl | ⟨id, rfl⟩ <;> rfl
  let F' : Fm := ⟨F.W, F.T, F.G, 7, F.gt⟩
  have hp' : Hp F' B S γ W := hp.fm 7
  -- as it begins
  have rel0 : Rel F' B [(0, d)] S γ { tmps := #[v] ++ Array.replicate (fn.ntmps - (#[v] : Array Value).size) undef, defers := [] } W := by
    have hsl : ∀ s, SlotRep B W.cell? (Frz F' S γ W) S.get γ (fun s => (#[v] ++ Array.replicate (fn.ntmps - (#[v] : Array Value).size) undef).getD s undef) (getE [(0, d)] s) ((#[v] ++ Array.replicate (fn.ntmps - (#[v] : Array Value).size) undef).getD s undef) ∧ (getE [(0, d)] s).bnd B := fun s => by
      rw [getE_cons]
      split
      · rename_i e
        subst e
        refine ⟨?_, hbd⟩
        have hv0 : (#[v] ++ Array.replicate (fn.ntmps - (#[v] : Array Value).size) undef).getD 0 undef = v := by simp [Array.getD]
        rw [hv0]
        rcases hd with rfl | ⟨id, rfl⟩ <;> exact hv
      · exact junk_slot s
    exact ⟨hp', fun s => (hsl s).1, rfl, by simp [F', h4], fun s => (hsl s).2⟩
  have hgd : ∀ s, noGd [(0, d)] s = true := fun s => by rcases hd with rfl | ⟨id, rfl⟩ <;> rfl
  refine calls_of_wp h1 h3 ?_
  generalize ({ tmps := #[v] ++ Array.replicate (fn.ntmps - (#[v] : Array Value).size) undef, defers := [] } : Act) = a0 at rel0 ⊢
  -- the first region
  refine wp_seq (wp_region (wp1 (o := o0) rfl g0 (mv_wp (.inr e0) ?_)))
  have rel1 := rel0.put (dst := o0.dst) (d := .junk) (v := a0.eval (.const z)) trivial trivial (fun s hs => by rw [d0] at hs; cases hs; exact ⟨(show (2 : Nat) < 7 by decide), hgd _⟩) rfl
  rw [d0] at rel1 ⊢
  simp only [putE] at rel1
  generalize a0.put (some 2) (a0.eval (.const z)) = a1 at rel1 ⊢
  simp only [wpOps, Exit.then]
  -- the second
  refine wp_seq (wp_region (wp1 (o := o1) rfl g1 (mv_wp (.inl e1) (wp1 (o := o2) rfl g2 ?_))))
  have hg1 : ∀ s, noGd [(2, .junk), (0, d)] s = true := fun s => by rcases hd with rfl | ⟨id, rfl⟩ <;> rfl
  have q1 := rel1.eval (.tmp 0)
  have ev1 : evO [(2, .junk), (0, d)] (.tmp 0) = d := by rcases hd with rfl | ⟨id, rfl⟩ <;> rfl
  rw [ev1] at q1
  have rel2 := rel1.put (dst := o1.dst) q1.1 q1.2 (fun s hs => by rw [d1] at hs; cases hs; exact ⟨(show (3 : Nat) < 7 by decide), hg1 _⟩) hng
  rw [d1] at rel2 ⊢
  simp only [putE] at rel2
  generalize a1.put (some 3) (a1.eval (.tmp 0)) = a2 at rel2 ⊢
  have cf1 : callF (evO [(3, d), (2, .junk), (0, d)]) o2 = some (fs, [d]) := by
    unfold callF
    rw [e2]
    rcases hd with rfl | ⟨id, rfl⟩ <;> rfl
  obtain ⟨vs1, w1, _, w3⟩ := callF_run (P := P) rel2.eval cf1
  simp only [RepDs] at w1
  obtain ⟨v1, _, rfl, w4, rfl⟩ := w1
  unfold Oper.wp
  rw [w3 hs.1, Oper.upon_enter]
  refine (hs.2 rel2.hp hf w4 k1).mono ?_
  rintro e W1 ⟨u1, γ1, rfl, s1, s2, _, _⟩
  simp only
  have hpB : Hp F' B ⟨S.nx, r1.u ++ S.m⟩ γ1 W1 := ⟨s2.obs, s2.inj, s2.nd, s2.trk, s2.kept, k5⟩
  have rel3 := (s1.rel rel2 (fun _ h => h) hpB).put (dst := o2.dst) (d := .junk) (v := u1) trivial trivial (fun s hs => by
    rw [d2] at hs
    cases hs
    exact ⟨(show (4 : Nat) < 7 by decide), by rcases hd with rfl | ⟨id, rfl⟩ <;> rfl⟩) rfl
  rw [d2] at rel3 ⊢
  simp only [putE] at rel3
  generalize a2.put (some 4) u1 = a3 at rel3 ⊢
  simp only [wpOps, Exit.then]
  -- the third
  refine wp_seq (wp_region (wp1 (o := o3) rfl g3 (mv_wp (.inl e3) (wp1 (o := o4) rfl g4 ?_))))
  have q3 := rel3.eval (.tmp 0)
  have ev3 : evO [(4, .junk), (3, d), (2, .junk), (0, d)] (.tmp 0) = d := by rcases hd with rfl | ⟨id, rfl⟩ <;> rfl
  rw [ev3] at q3
  have rel4 := rel3.put (dst := o3.dst) q3.1 q3.2 (fun s hs => by
    rw [d3] at hs
    cases hs
    exact ⟨(show (5 : Nat) < 7 by decide), by rcases hd with rfl | ⟨id, rfl⟩ <;> rfl⟩) hng
  rw [d3] at rel4 ⊢
  simp only [putE] at rel4
  generalize a3.put (some 5) (a3.eval (.tmp 0)) = a4 at rel4 ⊢
  have cf2 : callF (evO [(5, d), (4, .junk), (3, d), (2, .junk), (0, d)]) o4 = some (fc, [d]) := by
    unfold callF
    rw [e4]
    rcases hd with rfl | ⟨id, rfl⟩ <;> rfl
  obtain ⟨vs2, y1, _, y3⟩ := callF_run (P := P) rel4.eval cf2
  simp only [RepDs] at y1
  obtain ⟨v2, _, rfl, y4, rfl⟩ := y1
  unfold Oper.wp
  rw [y3 hc.1, Oper.upon_enter]
  refine (hc.2 rel4.hp hf y4 k2).mono ?_
  rintro e W2 ⟨u2, γ2, rfl, t1, t2, t3, t4⟩
  simp only
  refine wp1 (o := o5) rfl g5 (mv_wp (.inr e5) ?_)
  rw [d4, d5]
  have hsz : a4.tmps.size = 7 := rel4.size
  have hev : (a4.put (some 6) u2).eval (.tmp 6) = u2 := by
    show (a4.put (some 6) u2).tmps.getD 6 undef = u2
    rw [put_get (by omega), if_pos rfl]
  rw [hev]
  simp only [wpOps, Exit.then]
  refine wp_ret ?_
  have hres : (results fn ((a4.put (some 6) u2).put (some 2) u2).tmps).run P W2 = .ok u2 W2 := by
    have hz : ((a4.put (some 6) u2).put (some 2) u2).tmps.getD 2 undef = u2 := by
      have : (a4.put (some 6) u2).tmps.size = 7 := by simp [Act.put, hsz]
      rw [put_get (by omega), if_pos rfl]
    unfold results
    rw [h5]
    rw [Array.getD_eq_getD_getElem?] at hz
    simp [hz]
  refine ⟨rel4.defers, u2, hres, u2, γ2, rfl, ?_, ?_, ?_, ?_⟩
  · have h9 := (s1.trans t1).ext (S1 := S) (S1' := ⟨S.nx, r.u ++ S.m⟩) (fun _ => rfl) (fun k => (k4 k).symm)
    exact ⟨h9.hold, h9.os, h9.tape, h9.output, h9.size, h9.block, h9.trk⟩
  · have h9 := t2.ext' (S' := ⟨S.nx, r.u ++ S.m⟩) (fun k => (k4 k).symm)
    exact h9.fm F.n
  · rw [k3]
    have eg : St.get ⟨S.nx, r.u ++ S.m⟩ = St.get ⟨S.nx, r2.u ++ (r1.u ++ S.m)⟩ := funext fun k => (k4 k).symm
    have ef : Frz F ⟨S.nx, r.u ++ S.m⟩ γ2 W2 = Frz F' ⟨S.nx, r2.u ++ (r1.u ++ S.m)⟩ γ2 W2 := by
      funext b
      unfold Frz tracked
      rw [eg]
    rw [eg, ef]
    exact t3
  · rw [k3]; exact t4
end
end Go.XD

/- A function of the library is in the program. -/
namespace Go.XD
open Go.Proofs Go.Shelf

def ren189 : Go.Shelf.Ren := ⟨fun | 125 => 68 | 128 => 81 | 129 => 82 | 189 => 58 | 215 => 89 | 216 => 78 | 257 => 67 | 294 => 72 | 295 => 73 | 296 => 74 | 297 => 75 | 298 => 76 | 299 => 77 | 300 => 79 | 301 => 80 | 328 => 84 | 329 => 85 | 330 => 86 | 331 => 87 | 332 => 88 | 343 => 90 | n => n, fun | 0 => 0 | 3 => 3 | 4 => 4 | 5 => 5 | 9 => 9 | 28 => 35 | 46 => 116 | 51 => 127 | 53 => 129 | 131 => 30 | 182 => 120 | 183 => 121 | 218 => 130 | 222 => 134 | 228 => 136 | 229 => 137 | n => n, fun n => n⟩
theorem lays189 : Lays.n189 Try.prog ren189 where
  mixed := by kernel_rfl
  f125 := Try.func68.trans (congrArg some (by kernel_rfl))
  f128 := Try.func81.trans (congrArg some (by kernel_rfl))
  f129 := Try.func82.trans (congrArg some (by kernel_rfl))
  f189 := Try.func58.trans (congrArg some (by kernel_rfl))
  f215 := Try.func89.trans (congrArg some (by kernel_rfl))
  f216 := Try.func78.trans (congrArg some (by kernel_rfl))
  f257 := Try.func67.trans (congrArg some (by kernel_rfl))
  f294 := Try.func72.trans (congrArg some (by kernel_rfl))
  f295 := Try.func73.trans (congrArg some (by kernel_rfl))
  f296 := Try.func74.trans (congrArg some (by kernel_rfl))
  f297 := Try.func75.trans (congrArg some (by kernel_rfl))
  f298 := Try.func76.trans (congrArg some (by kernel_rfl))
  f299 := Try.func77.trans (congrArg some (by kernel_rfl))
  f300 := Try.func79.trans (congrArg some (by kernel_rfl))
  f301 := Try.func80.trans (congrArg some (by kernel_rfl))
  f328 := Try.func84.trans (congrArg some (by kernel_rfl))
  f329 := Try.func85.trans (congrArg some (by kernel_rfl))
  f330 := Try.func86.trans (congrArg some (by kernel_rfl))
  f331 := Try.func87.trans (congrArg some (by kernel_rfl))
  f332 := Try.func88.trans (congrArg some (by kernel_rfl))
  f343 := Try.func90.trans (congrArg some (by kernel_rfl))
  t0 := Try.underlying0
  a0 := Try.isAgg0
  z0 := Try.sizeOf0
  v0 := Try.zeroValue0
  t3 := Try.underlying3
  a3 := Try.isAgg3
  z3 := Try.sizeOf3
  v3 := Try.zeroValue3
  t4 := Try.underlying4
  a4 := Try.isAgg4
  z4 := Try.sizeOf4
  v4 := Try.zeroValue4
  t5 := Try.underlying5
  a5 := Try.isAgg5
  z5 := Try.sizeOf5
  v5 := Try.zeroValue5
  t9 := Try.underlying9
  a9 := Try.isAgg9
  z9 := Try.sizeOf9
  v9 := Try.zeroValue9
  t28 := Try.underlying35
  a28 := Try.isAgg35
  z28 := Try.sizeOf35
  v28 := Try.zeroValue35
  t46 := Try.underlying116
  a46 := Try.isAgg116
  z46 := Try.sizeOf116
  v46 := Try.zeroValue116
  t51 := Try.underlying127
  a51 := Try.isAgg127
  z51 := Try.sizeOf127
  v51 := Try.zeroValue127
  t53 := Try.underlying129
  a53 := Try.isAgg129
  z53 := Try.sizeOf129
  v53 := Try.zeroValue129
  t131 := Try.underlying30
  a131 := Try.isAgg30
  z131 := Try.sizeOf30
  v131 := Try.zeroValue30
  t182 := Try.underlying120
  a182 := Try.isAgg120
  z182 := Try.sizeOf120
  v182 := Try.zeroValue120
  t183 := Try.underlying121
  a183 := Try.isAgg121
  z183 := Try.sizeOf121
  v183 := Try.zeroValue121
  t218 := Try.underlying130
  a218 := Try.isAgg130
  z218 := Try.sizeOf130
  v218 := Try.zeroValue130
  t222 := Try.underlying134
  a222 := Try.isAgg134
  z222 := Try.sizeOf134
  v222 := Try.zeroValue134
  t228 := Try.underlying136
  a228 := Try.isAgg136
  z228 := Try.sizeOf136
  v228 := Try.zeroValue136
  t229 := Try.underlying137
  a229 := Try.isAgg137
  z229 := Try.sizeOf137
  v229 := Try.zeroValue137
theorem S189_ok : NatOK Try.prog 58 0 := sort_ok lays189 (fn := Try.f58) Try.func58 (by kernel_rfl) (by kernel_rfl)
end Go.XD

/- A function of the library is in the program. -/
namespace Go.XD
open Go.Proofs Go.Shelf

def ren20 : Go.Shelf.Ren := ⟨fun | 20 => 59 | n => n, fun | 0 => 0 | 3 => 3 | 4 => 4 | 22 => 35 | n => n, fun n => n⟩
theorem lays20 : Lays2.n20 Try.prog ren20 where
  mixed := by kernel_rfl
  f20 := Try.func59.trans (congrArg some (by kernel_rfl))
  t0 := Try.underlying0
  a0 := Try.isAgg0
  z0 := Try.sizeOf0
  v0 := Try.zeroValue0
  t3 := Try.underlying3
  a3 := Try.isAgg3
  z3 := Try.sizeOf3
  v3 := Try.zeroValue3
  t4 := Try.underlying4
  a4 := Try.isAgg4
  z4 := Try.sizeOf4
  v4 := Try.zeroValue4
  t22 := Try.underlying35
  a22 := Try.isAgg35
  z22 := Try.sizeOf35
  v22 := Try.zeroValue35
  i3 := by kernel_rfl
theorem S20_ok : NatOK Try.prog 59 1 := compact_ok lays20 (fn := Try.f59) Try.func59 (by kernel_rfl) (by kernel_rfl)
end Go.XD

/- tidy sorts and compacts. -/
namespace Go.XD
open Go.Proofs

theorem S47_ok : NatOK Try.prog 47 3 :=
  tidy_ok S189_ok S20_ok (fn := Try.f47) Try.func47 (by kernel_rfl) rfl rfl rfl ⟨rfl, rfl, rfl, rfl, rfl, rfl⟩ rfl rfl rfl rfl rfl rfl rfl rfl rfl rfl rfl rfl
end Go.XD

namespace Go.XD
open Go.Proofs

abbrev t_easementref08_Pair : Ty := (.st (.cons (.int .i64) (.cons (.int .i64) .nil)))
abbrev V_easementref08_Pair : Type := (Int × Int × Unit)
abbrev V_graph_Graph : Type := (Int × (List V_easementref08_Pair) × (List Int) × (List Int) × (List Int) × (List Int) × Unit)
abbrev V_point_Points : Type := ((List Int) × Unit)
abbrev t_scc_call : Ty := (.st (.cons (.int .i64) (.cons (.lst (.int .i64)) .nil)))
abbrev V_scc_call : Type := (Int × (List Int) × Unit)
abbrev V_scc_finder : Type := ((Option V_graph_Graph) × (List Int) × (List Int) × (List Int) × (List Int) × (List V_scc_call) × (List (List Int)) × Int × Unit)
abbrev V_scc_least : Type := ((List (List Int)) × (List Int) × Unit)
abbrev V_easementref22_Point : Type := (Int × Int × Bool × Unit)
abbrev V_scc_Parts : Type := ((List Int) × (List (List Int)) × Unit)
abbrev V_cond_Cond : Type := ((List (List Int)) × (List (List Int)) × (List Int) × (List Bool) × Unit)
abbrev T1 : Type := (((Bool × Unit) × Unit) × (List Int) × (List V_easementref08_Pair) × Int × Int × Unit)
abbrev T2 : Type := (((Bool × Unit) × Unit) × (List Int) × (List Int) × (List V_easementref08_Pair) × Int × Int × Unit)
abbrev T3 : Type := ((((Bool × Unit) × Unit) × (List Int) × (List Int) × Unit) ⊕ Empty)
abbrev T4 : Type := ((List V_easementref08_Pair) × (List V_easementref08_Pair) × Int × Unit)
abbrev T5 : Type := ((V_scc_finder × V_scc_call × Unit) ⊕ ((V_scc_finder × V_scc_call × Unit) ⊕ Empty))
abbrev T6 : Type := (V_graph_Graph × (List V_easementref08_Pair) × Int × Int × Unit)
abbrev T7 : Type := (V_easementref08_Pair × (List Int) × (List Int) × Bool × Unit)
abbrev T8 : Type := ((V_easementref08_Pair × (List Int) × (List Int) × Unit) ⊕ Empty)
abbrev T9 : Type := ((Option V_graph_Graph) × (List Int) × (List Int) × Int × Int × Unit)
abbrev T10 : Type := (V_scc_least × Unit × (List Int) × (List Int) × Int × (List Int) × Int × Int × Unit)
abbrev T11 : Type := (V_scc_Parts × V_scc_least × Unit × (List Int) × (List Int) × (Option V_graph_Graph) × Int × (List Int) × Int × Int × Unit)
abbrev T12 : Type := ((V_scc_Parts × V_scc_least × (List Int) × (List Int) × Unit) ⊕ Empty)
abbrev T13 : Type := (V_scc_Parts × V_scc_least × (List (List Int)) × Unit × (List Int) × (List Int) × (Option V_graph_Graph) × Unit)
abbrev T15 : Type := ((List V_easementref08_Pair) × (List Int) × Bool × Int × Unit)
abbrev T32 : Type := ((List (List Int)) × (List V_easementref08_Pair) × (List Int) × Int × Int × Unit)
abbrev T34 : Type := (Int × (List V_easementref08_Pair) × (List (List Int)) × (List Int) × Int × Unit)
abbrev T35 : Type := (Int × (List (List Int)) × (List Int) × Int × Int × Int × Unit)
abbrev T36 : Type := (Int × (List V_easementref08_Pair) × (List (List Int)) × (List Int) × Int × Bool × Int × Unit)
abbrev T37 : Type := ((Int × Bool × (List (List Int)) × (List Int) × Unit) ⊕ Empty)
abbrev T38 : Type := (Int × (List V_easementref08_Pair) × (List (List Int)) × (List Int) × Int × Bool × Unit)
abbrev T40 : Type := (V_scc_Parts × V_cond_Cond × (Option V_graph_Graph) × Int × Int × Unit)
abbrev T41 : Type := (((List (List Int) × Nat) × (List (List Int)) × (List Int) × (List Bool) × Unit) × Int × (List Int) × Int × Int × Unit)
abbrev T42 : Type := ((((List (List Int) × Nat) × (List (List Int)) × (List Int) × (List Bool) × Unit) × (List Int) × Unit) ⊕ Empty)
abbrev T45 : Type := ((List V_easementref08_Pair) × (List Int) × Int × Int × Int × Unit)
abbrev T46 : Type := ((List V_easementref08_Pair) × (List Int) × Int × Int × Unit)
abbrev T47 : Type := ((List V_easementref08_Pair) × (List Int) × Int × Int × (List Int) × Int × Unit)
abbrev T49 : Type := ((List V_easementref08_Pair) × (List Int) × Int × Int × Int × (List Int) × Int × Unit)
abbrev T50 : Type := ((List V_easementref08_Pair) × (Option V_cond_Cond) × (List Int) × Int × Int × (List Int) × Int × Unit)
abbrev q10 : CP := (.cons (.val (.ptr (.cons (.int .i64) (.cons (.lst t_easementref08_Pair) (.cons (.lst (.int .i32)) (.cons (.lst (.int .i32)) (.cons (.lst (.int .i32)) (.cons (.lst (.int .i32)) .nil)))))))) (.cons (.own (.int .i64)) (.cons (.own (.int .i64)) (.cons (.own (.int .i64)) (.cons (.own (.int .i64)) (.cons (.own t_scc_call) (.cons (.own (.lst (.int .i64))) (.cons (.val (.int .i64)) .nil))))))))
abbrev q14 : CP := (.cons (.ptr 0 (.cons (.val (.int .i64)) (.cons (.val (.lst (.int .i64))) .nil))) (.cons (.val .bool) (.cons (.ptr 5 q10) .nil)))
abbrev q15 : CP := (.cons (.val (.int .i64)) (.cons (.val .bool) (.cons (.ptr 3 q10) .nil)))
abbrev q18 : CP := (.cons (.ptr 0 q10) (.cons (.ptr 0 (.cons (.val (.int .i64)) (.cons (.val (.lst (.int .i64))) .nil))) .nil))
abbrev q21 : CP := (.cons (.val (.lst (.lst (.int .i64)))) (.cons (.own (.int .i64)) .nil))
abbrev q22 : CP := (.cons (.ptr 0 q21) (.cons (.val (.int .i64)) (.cons (.val (.int .i64)) .nil)))
abbrev q23 : CP := (.cons (.val (.int .i64)) (.cons (.own t_easementref08_Pair) (.cons (.val (.lst (.int .i32))) (.cons (.val (.lst (.int .i32))) (.cons (.val (.lst (.int .i32))) (.cons (.val (.lst (.int .i32))) .nil))))))
abbrev q25 : CP := (.cons (.val (.int .i64)) (.cons (.val (.int .i64)) (.cons (.val .bool) .nil)))
abbrev q26 : CP := (.cons (.ip 98 q21) (.cons (.val (.int .i64)) (.cons (.val (.int .i64)) .nil)))
abbrev q27 : CP := (.cons (.own (.int .i64)) (.cons (.val (.int .i64)) (.cons (.val (.lst (.int .i64))) (.cons (.val (.int .i64)) (.cons (.val (.int .i64)) .nil)))))
abbrev q28 : CP := (.cons (.own (.int .i64)) (.cons (.val (.lst (.lst (.int .i64)))) (.cons (.val (.int .i64)) (.cons (.val (.int .i64)) .nil))))
abbrev q29 : CP := (.cons (.ptr 0 (.cons (.val (.int .i64)) (.cons (.val (.int .i64)) .nil))) (.cons (.own (.int .i64)) (.cons (.own (.int .i64)) (.cons (.val .bool) .nil))))
abbrev q30 : CP := (.cons (.ptr 0 (.cons (.val (.int .i64)) (.cons (.val (.int .i64)) .nil))) (.cons (.own (.int .i64)) (.cons (.own (.int .i64)) .nil)))
abbrev q31 : CP := (.cons (.val (.ptr (.cons (.int .i64) (.cons (.lst t_easementref08_Pair) (.cons (.lst (.int .i32)) (.cons (.lst (.int .i32)) (.cons (.lst (.int .i32)) (.cons (.lst (.int .i32)) .nil)))))))) (.cons (.own (.int .i64)) (.cons (.own (.int .i64)) (.cons (.val (.int .i64)) (.cons (.val (.int .i64)) .nil)))))
abbrev q32 : CP := (.cons (.ptr 0 q21) (.cons (.val (.int .i64)) (.cons (.val .bool) .nil)))
abbrev q33 : CP := (.cons (.ptr 0 q21) (.cons (.own (.int .i64)) (.cons (.val (.int .i64)) (.cons (.val (.int .i64)) .nil))))
abbrev q34 : CP := (.cons (.ptr 0 q21) (.cons (.own (.int .i64)) (.cons (.val (.int .i64)) (.cons (.val .bool) .nil))))
abbrev q38 : CP := (.cons (.ptr 0 (.cons (.own (.int .i64)) (.cons (.own (.lst (.int .i64))) .nil))) (.cons (.ptr 0 q21) (.cons (.own (.int .i64)) (.cons (.own (.int .i64)) .nil))))
abbrev q41 : CP := (.cons (.ptr 0 (.cons (.own (.int .i64)) (.cons (.own (.lst (.int .i64))) .nil))) .nil)
abbrev q42 : CP := (.cons (.ptr 0 q10) (.cons (.val (.int .i64)) (.cons (.val .bool) .nil)))
abbrev q43 : CP := (.cons (.ptr 0 q10) (.cons (.val (.int .i64)) (.cons (.val (.int .i64)) .nil)))
abbrev q46 : CP := (.cons (.ptr 0 (.cons (.own (.int .i64)) (.cons (.own (.lst (.int .i64))) .nil))) (.cons (.val (.int .i64)) .nil))
abbrev q48 : CP := (.cons (.val (.int .i64)) (.cons (.ptr 0 (.cons (.own (.int .i64)) (.cons (.own (.lst (.int .i64))) .nil))) .nil))
abbrev q87 : CP := (.cons (.own (.int .i64)) (.cons (.val (.int .i64)) (.cons (.val .bool) .nil)))
abbrev q91 : CP := (.cons (.arr (.own (.int .i64))) (.cons (.arr (.own (.int .i64))) (.cons (.own (.int .i64)) (.cons (.own .bool) .nil))))
abbrev q92 : CP := (.cons (.ptr 0 q91) (.cons (.val (.int .i64)) (.cons (.val (.int .i64)) (.cons (.val .bool) .nil))))
abbrev q95 : CP := (.cons (.hol (.own (.int .i64)) 5) (.cons (.arr (.own (.int .i64))) (.cons (.own (.int .i64)) (.cons (.own .bool) .nil))))
abbrev q110 : CP := (.cons (.val (.lst t_easementref08_Pair)) (.cons (.val (.lst (.int .i64))) (.cons (.val (.int .i64)) (.cons (.val (.int .i64)) (.cons (.own (.int .i64)) (.cons (.val (.int .i64)) .nil))))))
noncomputable def k0 : FE Try.prog := ⟨[], [], [], [], trivial, trivial, trivial⟩

/-! ### easement/graph.lay$1: function 60, at objects -/
noncomputable def graph_lay_1_p0 (x : (V_easementref08_Pair × (Bool × Unit) × Unit)) : Option ((Int × (Bool × Unit) × Unit) ⊕ Empty) :=
  cond (x.2.1.1)
    (some (.inl (x.1.2.1, x.2)))
    (some (.inl (x.1.1, x.2)))
noncomputable def k1L : LCtr := ⟨[0, 1], (.cons (.val t_easementref08_Pair) (.cons (.ptr 0 (.cons (.val .bool) .nil)) .nil)), [], [], [⟨.ret, [3, 1], (.cons (.val (.int .i64)) (.cons (.ptr 0 (.cons (.val .bool) .nil)) .nil)), [some 0]⟩], fun _ => [], graph_lay_1_p0⟩
noncomputable def graph_lay_1_p0_c : PI := mkPI Try.f60 k1L
theorem graph_lay_1_p0_ok : PIOK Try.prog 60 graph_lay_1_p0_c := proc_E (ls := []) k0 Try.func60 trivial (by kernel_rfl) (fun x => by kernel_rfl)
/-! ### easement/graph.lay: function 49 -/
noncomputable def k2 : FE Try.prog := ⟨[], [(60, [graph_lay_1_p0_c])], [], [], trivial, ⟨⟨graph_lay_1_p0_ok, trivial⟩, trivial⟩, trivial⟩
noncomputable def graph_lay_l8_step (g : T1 → Option ((((Bool × Unit) × Unit) × (List Int) × Unit) ⊕ Empty)) (x : T1) : Option ((((Bool × Unit) × Unit) × (List Int) × Unit) ⊕ Empty) :=
  cond (decide (x.2.2.2.2.1 < x.2.2.2.1))
    (ck (inB x.2.2.2.2.1 (x.2.2.1.length)) <|
    Option.bind (graph_lay_1_p0 (rdL t_easementref08_Pair x.2.2.1 x.2.2.2.2.1, x.1)) fun y1 => out1 y1
      (fun z2 =>
        let v1 := IntKind.i64.wrap (z2.1 + (1 : Int))
        ck (inB v1 (x.2.1.length)) <|
        ck (inB v1 (x.2.1.length)) <|
        g (z2.2, x.2.1.set v1.toNat (IntKind.i32.wrap ((x.2.1.getD v1.toNat (Ty.dflt (.int .i32))) + (1 : Int))), x.2.2.1, x.2.2.2.1, IntKind.i64.wrap (x.2.2.2.2.1 + (1 : Int)), ())))
    (some (.inl (x.1, x.2.1, ())))
noncomputable def k2l1 : LCtr := ⟨[8, 9, 22, 23, 24], (.cons (.clo 60 (.cons (.ptr 0 (.cons (.val .bool) .nil)) .nil)) (.cons (.own (.int .i32)) (.cons (.val (.lst t_easementref08_Pair)) (.cons (.val (.int .i64)) (.cons (.val (.int .i64)) .nil))))), [some 0, some 1], [0, 1, 8, 9], [⟨(.exit 0), [8, 9], (.cons (.clo 60 (.cons (.ptr 0 (.cons (.val .bool) .nil)) .nil)) (.cons (.own (.int .i32)) .nil)), [some 0, some 1]⟩], fun _ => [], lim graph_lay_l8_step⟩
noncomputable def graph_lay_l18_step (g : ((List Int) × Int × Int × Unit) → Option (V_point_Points ⊕ Empty)) (x : ((List Int) × Int × Int × Unit)) : Option (V_point_Points ⊕ Empty) :=
  cond (decide (x.2.2.1 < x.2.1))
    (let v1 := IntKind.i64.wrap (x.2.2.1 + (1 : Int))
    ck (inB v1 (x.1.length)) <|
    ck (inB x.2.2.1 (x.1.length)) <|
    ck (inB v1 (x.1.length)) <|
    g (x.1.set v1.toNat (IntKind.i32.wrap ((x.1.getD v1.toNat (Ty.dflt (.int .i32))) + (x.1.getD x.2.2.1.toNat (Ty.dflt (.int .i32))))), x.2.1, IntKind.i64.wrap (x.2.2.1 + (1 : Int)), ()))
    (some (.inl (x.1, ())))
noncomputable def k2l2 : LCtr := ⟨[9, 38, 39], (.cons (.own (.int .i32)) (.cons (.val (.int .i64)) (.cons (.val (.int .i64)) .nil))), [some 0], [1, 8, 9], [⟨(.exit 2), [9], (.cons (.own (.int .i32)) .nil), [some 0]⟩], fun _ => [], lim graph_lay_l18_step⟩
noncomputable def graph_lay_l32_step (g : T2 → Option T3) (x : T2) : Option T3 :=
  cond (decide (x.2.2.2.2.2.1 < x.2.2.2.2.1))
    (ck (inB x.2.2.2.2.2.1 (x.2.2.2.1.length)) <|
    Option.bind (graph_lay_1_p0 (rdL t_easementref08_Pair x.2.2.2.1 x.2.2.2.2.2.1, x.1)) fun y7 => out1 y7
      (fun z8 =>
        ck (inB z8.1 (x.2.1.length)) <|
        let v1 := x.2.1.getD z8.1.toNat (Ty.dflt (.int .i32))
        ck (inB v1 (x.2.2.1.length)) <|
        ck (inB z8.1 (x.2.1.length)) <|
        ck (inB z8.1 (x.2.1.length)) <|
        g (z8.2, x.2.1.set z8.1.toNat (IntKind.i32.wrap ((x.2.1.getD z8.1.toNat (Ty.dflt (.int .i32))) + (1 : Int))), x.2.2.1.set v1.toNat (IntKind.i32.wrap x.2.2.2.2.2.1), x.2.2.2.1, x.2.2.2.2.1, IntKind.i64.wrap (x.2.2.2.2.2.1 + (1 : Int)), ())))
    (some (.inl (x.1, x.2.1, x.2.2.1, ())))
noncomputable def k2l3 : LCtr := ⟨[8, 13, 14, 59, 60, 61], (.cons (.clo 60 (.cons (.ptr 0 (.cons (.val .bool) .nil)) .nil)) (.cons (.own (.int .i32)) (.cons (.own (.int .i32)) (.cons (.val (.lst t_easementref08_Pair)) (.cons (.val (.int .i64)) (.cons (.val (.int .i64)) .nil)))))), [some 0, some 1, some 2], [9, 14], [⟨(.exit 4), [8, 13, 14], (.cons (.clo 60 (.cons (.ptr 0 (.cons (.val .bool) .nil)) .nil)) (.cons (.own (.int .i32)) (.cons (.own (.int .i32)) .nil))), [some 0, some 1, some 2]⟩], fun _ => [], lim graph_lay_l32_step⟩
theorem k2s : LsOK Try.prog Try.f49.ntmps (codeOf Try.f49) [(32, k2l3), (18, k2l2), (8, k2l1)] := loop_E 32 k2l3 k2 (loop_E 18 k2l2 k2 (loop_E 8 k2l1 k2 trivial (by kernel_rfl) rfl (fun g x => by kernel_rfl)) (by kernel_rfl) rfl (fun g x => by kernel_rfl)) (by kernel_rfl) rfl (fun g x => by kernel_rfl)
noncomputable def graph_lay (x : (Int × (List V_easementref08_Pair) × Bool × Unit)) : Option ((List Int) × (List Int) × Unit) :=
  let v1 := IntKind.i64.wrap (x.1 + (1 : Int))
  ck (decide (0 ≤ v1) && decide (v1 ≤ v1) && decide (v1 * ((6 : Nat) : Int) ≤ 35184372088832)) <|
  Option.bind (lim graph_lay_l8_step ((x.2.2, ()), List.replicate v1.toNat ((0 : Int) : Int), x.2.1, (x.2.1.length : Int), (0 : Int), ())) fun y3 => out1 y3
    (fun z4 =>
      Option.bind (lim graph_lay_l18_step (z4.2.1, x.1, (0 : Int), ())) fun y5 => out1 y5
        (fun z6 =>
          ck (roomB (([] : List Int) ++ z6.1).length 6) <|
          ck (decide (0 ≤ (x.2.1.length : Int)) && decide ((x.2.1.length : Int) ≤ (x.2.1.length : Int)) && decide ((x.2.1.length : Int) * ((6 : Nat) : Int) ≤ 35184372088832)) <|
          Option.bind (lim graph_lay_l32_step (z4.1, ([] : List Int) ++ z6.1, List.replicate (x.2.1.length : Int).toNat ((0 : Int) : Int), x.2.1, (x.2.1.length : Int), (0 : Int), ())) fun y9 => out1 y9
            (fun z10 =>
              some (z10.2.2.1, z6))))
noncomputable def graph_lay_c : Ctr := ⟨(.cons (.int .i64) (.cons (.lst t_easementref08_Pair) (.cons .bool .nil))), (.cons (.lst (.int .i32)) (.cons (.lst (.int .i32)) .nil)), graph_lay, none⟩
theorem graph_lay_ok : CtrOK Try.prog 49 graph_lay_c := fun_E k2 Try.func49 k2s (by kernel_rfl) (fun x => by kernel_rfl)
/-! ### easement/graph.New: function 36 -/
noncomputable def k3 : FE Try.prog := ⟨[(49, graph_lay_c)], [], [], [], ⟨graph_lay_ok, trivial⟩, trivial, trivial⟩
noncomputable def graph_New_l12_step (g : (Int × (List V_easementref08_Pair) × Int × Int × Unit) → Option ((Unit × Int × Unit) ⊕ (Unit ⊕ Empty))) (x : (Int × (List V_easementref08_Pair) × Int × Int × Unit)) : Option ((Unit × Int × Unit) ⊕ (Unit ⊕ Empty)) :=
  cond (decide (x.2.2.2.1 < x.2.2.1))
    (ck (inB x.2.2.2.1 (x.2.1.length)) <|
    let v1 := rdL t_easementref08_Pair x.2.1 x.2.2.2.1
    cond (cond (cond (cond (decide (v1.1 < (0 : Int))) true (decide (v1.1 ≥ x.1))) true (decide (v1.2.1 < (0 : Int)))) true (decide (v1.2.1 ≥ x.1)))
      (some (.inl ((), (7 : Int), ())))
      (g (x.1, x.2.1, x.2.2.1, IntKind.i64.wrap (x.2.2.2.1 + (1 : Int)), ())))
    (some (.inr (.inl ())))
noncomputable def k3l1 : LCtr := ⟨[0, 20, 21, 22], (.cons (.val (.int .i64)) (.cons (.val (.lst t_easementref08_Pair)) (.cons (.val (.int .i64)) (.cons (.val (.int .i64)) .nil)))), [], [0, 1], [⟨.ret, [4, 5], (.cons (.cst true) (.cons (.val (.int .i64)) .nil)), []⟩, ⟨(.exit 1), [], .nil, []⟩], fun _ => [], lim graph_New_l12_step⟩
theorem k3s : LsOK Try.prog Try.f36.ntmps (codeOf Try.f36) [(12, k3l1)] := loop_E 12 k3l1 k3 trivial (by kernel_rfl) rfl (fun g x => by kernel_rfl)
noncomputable def graph_New (x : (Int × (List V_easementref08_Pair) × Unit)) : Option ((Option V_graph_Graph) × Int × Unit) :=
  cond (decide (x.1 < (0 : Int)))
    (some ((none : Option V_graph_Graph), (2 : Int), ()))
    (cond (cond (decide (x.1 > (1048576 : Int))) true (decide ((x.2.1.length : Int) > (67108864 : Int))))
      (some ((none : Option V_graph_Graph), (5 : Int), ()))
      (Option.bind (lim graph_New_l12_step (x.1, x.2.1, (x.2.1.length : Int), (0 : Int), ())) fun y1 => out2 y1
        (fun z2 =>
          some ((none : Option V_graph_Graph), z2.2))
        (fun z3 =>
          let v1 := ([] : List V_easementref08_Pair)
          ck (roomB (v1 ++ x.2.1).length 19) <|
          Option.bind (graph_lay (x.1, v1 ++ x.2.1, false, ())) fun y4 =>
          Option.bind (graph_lay (x.1, v1 ++ x.2.1, true, ())) fun y5 =>
          some (some (x.1, v1 ++ x.2.1, y4.1, y5.1, y4.2.1, y5.2), (0 : Int), ()))))
noncomputable def graph_New_c : Ctr := ⟨(.cons (.int .i64) (.cons (.lst t_easementref08_Pair) .nil)), (.cons (.ptr (.cons (.int .i64) (.cons (.lst t_easementref08_Pair) (.cons (.lst (.int .i32)) (.cons (.lst (.int .i32)) (.cons (.lst (.int .i32)) (.cons (.lst (.int .i32)) .nil))))))) (.cons (.int .i64) .nil)), graph_New, none⟩
theorem graph_New_ok : CtrOK Try.prog 36 graph_New_c := fun_E k3 Try.func36 k3s (by kernel_rfl) (fun x => by kernel_rfl)
/-! ### easement/easementlaw10.Of: function 9 -/
noncomputable def k4 : FE Try.prog := ⟨[(36, graph_New_c)], [], [], [], ⟨graph_New_ok, trivial⟩, trivial, trivial⟩
noncomputable def law10_Of_l6_step (g : T4 → Option (((List V_easementref08_Pair) × Unit) ⊕ Empty)) (x : T4) : Option (((List V_easementref08_Pair) × Unit) ⊕ Empty) :=
  cond (decide (x.2.2.1 < (x.1.length : Int)))
    (ck (inB x.2.2.1 (x.1.length)) <|
    ck (inB x.2.2.1 (x.1.length)) <|
    let v1 := x.2.1 ++ [rdL t_easementref08_Pair x.1 x.2.2.1]
    ck (roomB v1.length 19) <|
    g (x.1, v1, IntKind.i64.wrap (x.2.2.1 + (1 : Int)), ()))
    (some (.inl (x.2.1, ())))
noncomputable def k4l1 : LCtr := ⟨[1, 6, 7], (.cons (.val (.lst t_easementref08_Pair)) (.cons (.own t_easementref08_Pair) (.cons (.val (.int .i64)) .nil))), [none], [0], [⟨(.exit 0), [6], (.cons (.own t_easementref08_Pair) .nil), [none]⟩], fun _ => [], lim law10_Of_l6_step⟩
theorem k4s : LsOK Try.prog Try.f9.ntmps (codeOf Try.f9) [(6, k4l1)] := loop_E 6 k4l1 k4 trivial (by kernel_rfl) rfl (fun g x => by kernel_rfl)
noncomputable def law10_Of (x : (Int × (List V_easementref08_Pair) × Unit)) : Option ((Option V_graph_Graph) × Int × Unit) :=
  Option.bind (lim law10_Of_l6_step (x.2.1, ([] : List V_easementref08_Pair), (0 : Int), ())) fun y1 => out1 y1
    (fun z2 =>
      Option.bind (graph_New (x.1, z2)) fun y3 =>
      some y3)
noncomputable def law10_Of_c : Ctr := ⟨(.cons (.int .i64) (.cons (.lst t_easementref08_Pair) .nil)), (.cons (.ptr (.cons (.int .i64) (.cons (.lst t_easementref08_Pair) (.cons (.lst (.int .i32)) (.cons (.lst (.int .i32)) (.cons (.lst (.int .i32)) (.cons (.lst (.int .i32)) .nil))))))) (.cons (.int .i64) .nil)), law10_Of, none⟩
theorem law10_Of_ok : CtrOK Try.prog 9 law10_Of_c := fun_E k4 Try.func9 k4s (by kernel_rfl) (fun x => by kernel_rfl)
/-! ### (*easement/graph.Graph).Nodes: function 37 -/
noncomputable def graph_Graph_Nodes (x : ((Option V_graph_Graph) × Unit)) : Option (Int × Unit) :=
  cond (x.1.isNone)
    (some ((0 : Int), ()))
    (ck (x.1.isSome) <|
    some ((x.1.getD (Ty.dflt (.cons (.int .i64) (.cons (.lst t_easementref08_Pair) (.cons (.lst (.int .i32)) (.cons (.lst (.int .i32)) (.cons (.lst (.int .i32)) (.cons (.lst (.int .i32)) .nil)))))))).1, ()))
noncomputable def graph_Graph_Nodes_c : Ctr := ⟨(.cons (.ptr (.cons (.int .i64) (.cons (.lst t_easementref08_Pair) (.cons (.lst (.int .i32)) (.cons (.lst (.int .i32)) (.cons (.lst (.int .i32)) (.cons (.lst (.int .i32)) .nil))))))) .nil), (.cons (.int .i64) .nil), graph_Graph_Nodes, none⟩
theorem graph_Graph_Nodes_ok : CtrOK Try.prog 37 graph_Graph_Nodes_c := fun_E (ls := []) k0 Try.func37 trivial (by kernel_rfl) (fun x => by kernel_rfl)
/-! ### (*easement/stack.Stack[int]).Push: function 61, at objects -/
noncomputable def stack_Stack_int_Push_p0 (x : (V_scc_finder × (List Int) × Unit)) : Option ((V_scc_finder × Unit) ⊕ Empty) :=
  ck (roomB (x.1.2.2.2.1 ++ x.2.1).length 10) <|
  some (.inl ((x.1.1, x.1.2.1, x.1.2.2.1, x.1.2.2.2.1 ++ x.2.1, x.1.2.2.2.2), ()))
noncomputable def k6L : LCtr := ⟨[0, 1], (.cons (.ptr 3 q10) (.cons (.val (.lst (.int .i64))) .nil)), [], [], [⟨.normal, [0], (.cons (.ptr 3 q10) .nil), [some 0, some 1, some 2, none, some 4, some 5, some 6]⟩], fun _ => [], stack_Stack_int_Push_p0⟩
noncomputable def stack_Stack_int_Push_p0_c : PI := mkPI Try.f61 k6L
theorem stack_Stack_int_Push_p0_ok : PIOK Try.prog 61 stack_Stack_int_Push_p0_c := proc_E (ls := []) k0 Try.func61 trivial (by kernel_rfl) (fun x => by kernel_rfl)
/-! ### easement/graph.ints: function 71, at objects -/
noncomputable def graph_ints_p0_l6_step (g : ((List Int) × (List Int) × Int × Int × Unit) → Option (V_point_Points ⊕ Empty)) (x : ((List Int) × (List Int) × Int × Int × Unit)) : Option (V_point_Points ⊕ Empty) :=
  cond (decide (x.2.2.2.1 < x.2.2.1))
    (ck (inB x.2.2.2.1 (x.2.1.length)) <|
    ck (inB x.2.2.2.1 (x.1.length)) <|
    g (x.1.set x.2.2.2.1.toNat (IntKind.i64.wrap (rdL (.int .i32) x.2.1 x.2.2.2.1)), x.2.1, x.2.2.1, IntKind.i64.wrap (x.2.2.2.1 + (1 : Int)), ()))
    (some (.inl (x.1, ())))
noncomputable def k9l1 : LCtr := ⟨[3, 9, 10, 11], (.cons (.own (.int .i64)) (.cons (.val (.lst (.int .i32))) (.cons (.val (.int .i64)) (.cons (.val (.int .i64)) .nil)))), [some 0], [0, 3], [⟨(.exit 0), [3], (.cons (.own (.int .i64)) .nil), [some 0]⟩], fun _ => [], lim graph_ints_p0_l6_step⟩
theorem k9s : LsOK Try.prog Try.f71.ntmps (codeOf Try.f71) [(6, k9l1)] := loop_E 6 k9l1 k0 trivial (by kernel_rfl) rfl (fun g x => by kernel_rfl)
noncomputable def graph_ints_p0 (x : V_point_Points) : Option (V_point_Points ⊕ Empty) :=
  ck (decide (0 ≤ (x.1.length : Int)) && decide ((x.1.length : Int) ≤ (x.1.length : Int)) && decide ((x.1.length : Int) * ((10 : Nat) : Int) ≤ 35184372088832)) <|
  Option.bind (lim graph_ints_p0_l6_step (List.replicate (x.1.length : Int).toNat ((0 : Int) : Int), x.1, (x.1.length : Int), (0 : Int), ())) fun y1 => out1 y1
    (fun z2 =>
      some (.inl z2))
noncomputable def k9L : LCtr := ⟨[0], (.cons (.val (.lst (.int .i32))) .nil), [], [], [⟨.ret, [2], (.cons (.own (.int .i64)) .nil), [none]⟩], fun _ => [], graph_ints_p0⟩
noncomputable def graph_ints_p0_c : PI := mkPI Try.f71 k9L
theorem graph_ints_p0_ok : PIOK Try.prog 71 graph_ints_p0_c := proc_E k0 Try.func71 k9s (by kernel_rfl) (fun x => by kernel_rfl)
/-! ### (*easement/graph.Graph).Out: function 66, at objects -/
noncomputable def k10 : FE Try.prog := ⟨[(37, graph_Graph_Nodes_c)], [(71, [graph_ints_p0_c])], [], [], ⟨graph_Graph_Nodes_ok, trivial⟩, ⟨⟨graph_ints_p0_ok, trivial⟩, trivial⟩, trivial⟩
noncomputable def graph_Graph_Out_p0 (x : ((Option V_graph_Graph) × Int × Unit)) : Option (V_point_Points ⊕ Empty) :=
  cond (!(decide (x.2.1 < (0 : Int))))
    (Option.bind (graph_Graph_Nodes (x.1, ())) fun y1 =>
    cond (decide (x.2.1 ≥ y1.1))
      (some (.inl (([] : List Int), ())))
      (ck (x.1.isSome) <|
      ck (x.1.isSome) <|
      let v1 := (x.1.getD (Ty.dflt (.cons (.int .i64) (.cons (.lst t_easementref08_Pair) (.cons (.lst (.int .i32)) (.cons (.lst (.int .i32)) (.cons (.lst (.int .i32)) (.cons (.lst (.int .i32)) .nil)))))))).2.2.2.2.1
      ck (inB x.2.1 (v1.length)) <|
      ck (x.1.isSome) <|
      let v2 := IntKind.i64.wrap (x.2.1 + (1 : Int))
      let v3 := (x.1.getD (Ty.dflt (.cons (.int .i64) (.cons (.lst t_easementref08_Pair) (.cons (.lst (.int .i32)) (.cons (.lst (.int .i32)) (.cons (.lst (.int .i32)) (.cons (.lst (.int .i32)) .nil)))))))).2.2.2.2.1
      ck (inB v2 (v3.length)) <|
      let v4 := (x.1.getD (Ty.dflt (.cons (.int .i64) (.cons (.lst t_easementref08_Pair) (.cons (.lst (.int .i32)) (.cons (.lst (.int .i32)) (.cons (.lst (.int .i32)) (.cons (.lst (.int .i32)) .nil)))))))).2.2.1
      ck (decide (0 ≤ (rdL (.int .i32) v1 x.2.1)) && decide ((rdL (.int .i32) v1 x.2.1) ≤ (rdL (.int .i32) v3 v2)) && decide ((rdL (.int .i32) v3 v2) ≤ v4.length)) <|
      Option.bind (graph_ints_p0 ((v4.take (rdL (.int .i32) v3 v2).toNat).drop (rdL (.int .i32) v1 x.2.1).toNat, ())) fun y2 => out1 y2
        (fun z3 =>
          some (.inl z3))))
    (some (.inl (([] : List Int), ())))
noncomputable def k10L : LCtr := ⟨[0, 1], (.cons (.val (.ptr (.cons (.int .i64) (.cons (.lst t_easementref08_Pair) (.cons (.lst (.int .i32)) (.cons (.lst (.int .i32)) (.cons (.lst (.int .i32)) (.cons (.lst (.int .i32)) .nil)))))))) (.cons (.val (.int .i64)) .nil)), [], [], [⟨.ret, [4], (.cons (.own (.int .i64)) .nil), [none]⟩], fun _ => [], graph_Graph_Out_p0⟩
noncomputable def graph_Graph_Out_p0_c : PI := mkPI Try.f66 k10L
theorem graph_Graph_Out_p0_ok : PIOK Try.prog 66 graph_Graph_Out_p0_c := proc_E (ls := []) k10 Try.func66 trivial (by kernel_rfl) (fun x => by kernel_rfl)
/-! ### (*easement/graph.Graph).Next: function 57 -/
noncomputable def k11 : FE Try.prog := ⟨[], [(66, [graph_Graph_Out_p0_c])], [], [], trivial, ⟨⟨graph_Graph_Out_p0_ok, trivial⟩, trivial⟩, trivial⟩
noncomputable def graph_Graph_Next_l6_step (g : ((Option V_graph_Graph) × (List Int) × Int × Int × Unit) → Option (V_point_Points ⊕ Empty)) (x : ((Option V_graph_Graph) × (List Int) × Int × Int × Unit)) : Option (V_point_Points ⊕ Empty) :=
  cond (decide (x.2.2.2.1 < x.2.2.1))
    (ck (inB x.2.2.2.1 (x.2.1.length)) <|
    ck (x.1.isSome) <|
    let v1 := x.2.1.getD x.2.2.2.1.toNat (Ty.dflt (.int .i64))
    let v2 := (x.1.getD (Ty.dflt (.cons (.int .i64) (.cons (.lst t_easementref08_Pair) (.cons (.lst (.int .i32)) (.cons (.lst (.int .i32)) (.cons (.lst (.int .i32)) (.cons (.lst (.int .i32)) .nil)))))))).2.1
    ck (inB v1 (v2.length)) <|
    ck (inB x.2.2.2.1 (x.2.1.length)) <|
    g (x.1, x.2.1.set x.2.2.2.1.toNat (rdL t_easementref08_Pair v2 v1).2.1, x.2.2.1, IntKind.i64.wrap (x.2.2.2.1 + (1 : Int)), ()))
    (some (.inl (x.2.1, ())))
noncomputable def k11l1 : LCtr := ⟨[0, 5, 12, 13], (.cons (.val (.ptr (.cons (.int .i64) (.cons (.lst t_easementref08_Pair) (.cons (.lst (.int .i32)) (.cons (.lst (.int .i32)) (.cons (.lst (.int .i32)) (.cons (.lst (.int .i32)) .nil)))))))) (.cons (.own (.int .i64)) (.cons (.val (.int .i64)) (.cons (.val (.int .i64)) .nil)))), [some 0], [5], [⟨(.exit 0), [5], (.cons (.own (.int .i64)) .nil), [some 0]⟩], fun _ => [(11, .sf 0)], lim graph_Graph_Next_l6_step⟩
theorem k11s : LsOK Try.prog Try.f57.ntmps (codeOf Try.f57) [(6, k11l1)] := loop_E 6 k11l1 k11 trivial (by kernel_rfl) rfl (fun g x => by kernel_rfl)
noncomputable def graph_Graph_Next (x : ((Option V_graph_Graph) × Int × Unit)) : Option ((List Int) × Unit) :=
  Option.bind (graph_Graph_Out_p0 x) fun y1 => out1 y1
    (fun z2 =>
      Option.bind (lim graph_Graph_Next_l6_step (x.1, z2.1, (z2.1.length : Int), (0 : Int), ())) fun y3 => out1 y3
        (fun z4 =>
          some z4))
noncomputable def graph_Graph_Next_c : Ctr := ⟨(.cons (.ptr (.cons (.int .i64) (.cons (.lst t_easementref08_Pair) (.cons (.lst (.int .i32)) (.cons (.lst (.int .i32)) (.cons (.lst (.int .i32)) (.cons (.lst (.int .i32)) .nil))))))) (.cons (.int .i64) .nil)), (.cons (.lst (.int .i64)) .nil), graph_Graph_Next, none⟩
theorem graph_Graph_Next_ok : CtrOK Try.prog 57 graph_Graph_Next_c := fun_E k11 Try.func57 k11s (by kernel_rfl) (fun x => by kernel_rfl)
/-! ### (*easement/stack.Stack[easement/scc.call]).Push: function 52, at objects -/
noncomputable def stack_Stack_scc_call_Push_p0 (x : (V_scc_finder × (List V_scc_call) × Unit)) : Option ((V_scc_finder × Unit) ⊕ Empty) :=
  ck (roomB (x.1.2.2.2.2.2.1 ++ x.2.1).length 35) <|
  some (.inl ((x.1.1, x.1.2.1, x.1.2.2.1, x.1.2.2.2.1, x.1.2.2.2.2.1, x.1.2.2.2.2.2.1 ++ x.2.1, x.1.2.2.2.2.2.2), ()))
noncomputable def k12L : LCtr := ⟨[0, 1], (.cons (.ptr 5 q10) (.cons (.val (.lst t_scc_call)) .nil)), [], [], [⟨.normal, [0], (.cons (.ptr 5 q10) .nil), [some 0, some 1, some 2, some 3, some 4, none, some 6]⟩], fun _ => [], stack_Stack_scc_call_Push_p0⟩
noncomputable def stack_Stack_scc_call_Push_p0_c : PI := mkPI Try.f52 k12L
theorem stack_Stack_scc_call_Push_p0_ok : PIOK Try.prog 52 stack_Stack_scc_call_Push_p0_c := proc_E (ls := []) k0 Try.func52 trivial (by kernel_rfl) (fun x => by kernel_rfl)
/-! ### (*easement/scc.finder).opens: function 50, at objects -/
noncomputable def k13 : FE Try.prog := ⟨[(57, graph_Graph_Next_c)], [(61, [stack_Stack_int_Push_p0_c]), (52, [stack_Stack_scc_call_Push_p0_c])], [(42, [1]), (55, [1])], [], ⟨graph_Graph_Next_ok, trivial⟩, ⟨⟨stack_Stack_int_Push_p0_ok, trivial⟩, ⟨stack_Stack_scc_call_Push_p0_ok, trivial⟩, trivial⟩, trivial⟩
noncomputable def scc_finder_opens_p0 (x : (V_scc_finder × Int × Unit)) : Option ((V_scc_finder × Unit) ⊕ Empty) :=
  ck (inB x.2.1 (x.1.2.1.length)) <|
  ck (inB x.2.1 (x.1.2.2.1.length)) <|
  ck (inB x.2.1 (x.1.2.2.2.2.1.length)) <|
  let v1 := IntKind.i64.wrap (x.1.2.2.2.2.2.2.2.1 + (1 : Int))
  let v2 := IntKind.i64.wrap ((1 : Int) + v1)
  Option.bind (stack_Stack_int_Push_p0 ((x.1.1, x.1.2.1.set x.2.1.toNat v2, x.1.2.2.1.set x.2.1.toNat v2, x.1.2.2.2.1, x.1.2.2.2.2.1.set x.2.1.toNat (1 : Int), x.1.2.2.2.2.2.1, x.1.2.2.2.2.2.2.1, v1, ()), [x.2.1], ())) fun y1 => out1 y1
    (fun z2 =>
      Option.bind (graph_Graph_Next (z2.1.1, x.2)) fun y3 =>
      Option.bind (stack_Stack_scc_call_Push_p0 (z2.1, [(x.2.1, y3)], ())) fun y4 => out1 y4
        (fun z5 =>
          some (.inl z5)))
noncomputable def k13L : LCtr := ⟨[0, 1], (.cons (.ptr 0 q10) (.cons (.val (.int .i64)) .nil)), [], [], [⟨.normal, [0], (.cons (.ptr 0 q10) .nil), [some 0, some 1, some 2, none, some 4, none, some 6]⟩], fun _ => [], scc_finder_opens_p0⟩
noncomputable def scc_finder_opens_p0_c : PI := mkPI Try.f50 k13L
theorem scc_finder_opens_p0_ok : PIOK Try.prog 50 scc_finder_opens_p0_c := proc_E (ls := []) k13 Try.func50 trivial (by kernel_rfl) (fun x => by kernel_rfl)
/-! ### (*easement/stack.Stack[easement/scc.call]).Len: function 69, at objects -/
noncomputable def stack_Stack_scc_call_Len_p0 (x : (V_scc_finder × Unit)) : Option ((Int × V_scc_finder × Unit) ⊕ Empty) :=
  some (.inl ((x.1.2.2.2.2.2.1.length : Int), x))
noncomputable def k14L : LCtr := ⟨[0], (.cons (.ptr 5 q10) .nil), [], [], [⟨.ret, [2, 0], (.cons (.val (.int .i64)) (.cons (.ptr 5 q10) .nil)), [some 0, some 1, some 2, some 3, some 4, some 5, some 6]⟩], fun _ => [], stack_Stack_scc_call_Len_p0⟩
noncomputable def stack_Stack_scc_call_Len_p0_c : PI := mkPI Try.f69 k14L
theorem stack_Stack_scc_call_Len_p0_ok : PIOK Try.prog 69 stack_Stack_scc_call_Len_p0_c := proc_E (ls := []) k0 Try.func69 trivial (by kernel_rfl) (fun x => by kernel_rfl)
/-! ### (*easement/stack.Stack[easement/scc.call]).Top: function 62, at objects -/
noncomputable def k15 : FE Try.prog := ⟨[], [(69, [stack_Stack_scc_call_Len_p0_c])], [], [], trivial, ⟨⟨stack_Stack_scc_call_Len_p0_ok, trivial⟩, trivial⟩, trivial⟩
noncomputable def stack_Stack_scc_call_Top_p0 (x : (V_scc_finder × Unit)) : Option ((V_scc_call × Bool × V_scc_finder × Unit) ⊕ Empty) :=
  Option.bind (stack_Stack_scc_call_Len_p0 x) fun y1 => out1 y1
    (fun z2 =>
      cond (z2.1 == (0 : Int))
        (some (.inl (((0 : Int), ([] : List Int), ()), false, z2.2)))
        (let v1 := IntKind.i64.wrap ((z2.2.1.2.2.2.2.2.1.length : Int) - (1 : Int))
        ck (inB v1 (z2.2.1.2.2.2.2.2.1.length)) <|
        some (.inl (z2.2.1.2.2.2.2.2.1.getD v1.toNat (Ty.dflt t_scc_call), true, z2.2))))
noncomputable def k15L : LCtr := ⟨[0], (.cons (.ptr 5 q10) .nil), [], [], [⟨.ret, [2, 3, 0], q14, [none, some 0, some 1, some 2, some 3, some 4, some 5, some 6]⟩], fun _ => [], stack_Stack_scc_call_Top_p0⟩
noncomputable def stack_Stack_scc_call_Top_p0_c : PI := mkPI Try.f62 k15L
theorem stack_Stack_scc_call_Top_p0_ok : PIOK Try.prog 62 stack_Stack_scc_call_Top_p0_c := proc_E (ls := []) k15 Try.func62 trivial (by kernel_rfl) (fun x => by kernel_rfl)
/-! ### (*easement/stack.Stack[easement/scc.call]).Pop: function 51, at objects -/
noncomputable def k16 : FE Try.prog := ⟨[], [(62, [stack_Stack_scc_call_Top_p0_c])], [], [], trivial, ⟨⟨stack_Stack_scc_call_Top_p0_ok, trivial⟩, trivial⟩, trivial⟩
noncomputable def stack_Stack_scc_call_Pop_p0_j25_v (x : (V_scc_finder × Bool × Unit)) : Option ((V_scc_finder × Unit) ⊕ Empty) :=
  cond (x.2.1)
    (let v1 := IntKind.i64.wrap ((x.1.2.2.2.2.2.1.length : Int) - (1 : Int))
    ck (inB v1 (x.1.2.2.2.2.2.1.length)) <|
    let v2 := x.1.2.2.2.2.2.1.set v1.toNat ((0 : Int), ([] : List Int), (x.1.2.2.2.2.2.1.getD v1.toNat (Ty.dflt t_scc_call)).2.2)
    let v3 := IntKind.i64.wrap ((v2.length : Int) - (1 : Int))
    ck (decide (0 ≤ v3) && decide (v3 ≤ v2.length)) <|
    some (.inl ((x.1.1, x.1.2.1, x.1.2.2.1, x.1.2.2.2.1, x.1.2.2.2.2.1, v2.take v3.toNat, x.1.2.2.2.2.2.2), ())))
    (some (.inl (x.1, ())))
noncomputable def k16l1 : LCtr := ⟨[0, 12], (.cons (.ptr 5 q10) (.cons (.val .bool) .nil)), [], [0, 2, 4, 5], [⟨.normal, [0], (.cons (.ptr 5 q10) .nil), [some 0, some 1, some 2, some 3, some 4, none, some 6]⟩], fun _ => [], stack_Stack_scc_call_Pop_p0_j25_v⟩
theorem k16s : LsOK Try.prog Try.f51.ntmps (codeOf Try.f51) [(393241, k16l1)] := join_E 393241 k16l1 k16 trivial (by kernel_rfl) (fun x => by kernel_rfl)
noncomputable def stack_Stack_scc_call_Pop_p0 (x : (V_scc_finder × Unit)) : Option ((V_scc_call × Bool × V_scc_finder × Unit) ⊕ Empty) :=
  Option.bind (stack_Stack_scc_call_Top_p0 x) fun y1 => out1 y1
    (fun z2 =>
      Option.bind (stack_Stack_scc_call_Pop_p0_j25_v (z2.2.2.1, z2.2.1, ())) fun y3 => out1 y3
        (fun z4 =>
          some (.inl (z2.1, z2.2.1, z4))))
noncomputable def k16L : LCtr := ⟨[0], (.cons (.ptr 5 q10) .nil), [], [], [⟨.ret, [2, 3, 0], q14, [none, some 0, some 1, some 2, some 3, some 4, none, some 6]⟩], fun _ => [], stack_Stack_scc_call_Pop_p0⟩
noncomputable def stack_Stack_scc_call_Pop_p0_c : PI := mkPI Try.f51 k16L
theorem stack_Stack_scc_call_Pop_p0_ok : PIOK Try.prog 51 stack_Stack_scc_call_Pop_p0_c := proc_E k16 Try.func51 k16s (by kernel_rfl) (fun x => by kernel_rfl)
/-! ### (*easement/stack.Stack[int]).Len: function 83, at objects -/
noncomputable def stack_Stack_int_Len_p0 (x : (V_scc_finder × Unit)) : Option ((Int × V_scc_finder × Unit) ⊕ Empty) :=
  some (.inl ((x.1.2.2.2.1.length : Int), x))
noncomputable def k17L : LCtr := ⟨[0], (.cons (.ptr 3 q10) .nil), [], [], [⟨.ret, [2, 0], (.cons (.val (.int .i64)) (.cons (.ptr 3 q10) .nil)), [some 0, some 1, some 2, some 3, some 4, some 5, some 6]⟩], fun _ => [], stack_Stack_int_Len_p0⟩
noncomputable def stack_Stack_int_Len_p0_c : PI := mkPI Try.f83 k17L
theorem stack_Stack_int_Len_p0_ok : PIOK Try.prog 83 stack_Stack_int_Len_p0_c := proc_E (ls := []) k0 Try.func83 trivial (by kernel_rfl) (fun x => by kernel_rfl)
/-! ### (*easement/stack.Stack[int]).Top: function 70, at objects -/
noncomputable def k18 : FE Try.prog := ⟨[], [(83, [stack_Stack_int_Len_p0_c])], [], [], trivial, ⟨⟨stack_Stack_int_Len_p0_ok, trivial⟩, trivial⟩, trivial⟩
noncomputable def stack_Stack_int_Top_p0 (x : (V_scc_finder × Unit)) : Option ((Int × Bool × V_scc_finder × Unit) ⊕ Empty) :=
  Option.bind (stack_Stack_int_Len_p0 x) fun y1 => out1 y1
    (fun z2 =>
      cond (z2.1 == (0 : Int))
        (some (.inl ((0 : Int), false, z2.2)))
        (let v1 := IntKind.i64.wrap ((z2.2.1.2.2.2.1.length : Int) - (1 : Int))
        ck (inB v1 (z2.2.1.2.2.2.1.length)) <|
        some (.inl (z2.2.1.2.2.2.1.getD v1.toNat (Ty.dflt (.int .i64)), true, z2.2))))
noncomputable def k18L : LCtr := ⟨[0], (.cons (.ptr 3 q10) .nil), [], [], [⟨.ret, [2, 3, 0], q15, [some 0, some 1, some 2, some 3, some 4, some 5, some 6]⟩], fun _ => [], stack_Stack_int_Top_p0⟩
noncomputable def stack_Stack_int_Top_p0_c : PI := mkPI Try.f70 k18L
theorem stack_Stack_int_Top_p0_ok : PIOK Try.prog 70 stack_Stack_int_Top_p0_c := proc_E (ls := []) k18 Try.func70 trivial (by kernel_rfl) (fun x => by kernel_rfl)
/-! ### (*easement/stack.Stack[int]).Pop: function 63, at objects -/
noncomputable def k19 : FE Try.prog := ⟨[], [(70, [stack_Stack_int_Top_p0_c])], [], [], trivial, ⟨⟨stack_Stack_int_Top_p0_ok, trivial⟩, trivial⟩, trivial⟩
noncomputable def stack_Stack_int_Pop_p0_j25_v (x : (V_scc_finder × Bool × Unit)) : Option ((V_scc_finder × Unit) ⊕ Empty) :=
  cond (x.2.1)
    (let v1 := IntKind.i64.wrap ((x.1.2.2.2.1.length : Int) - (1 : Int))
    ck (inB v1 (x.1.2.2.2.1.length)) <|
    let v2 := x.1.2.2.2.1.set v1.toNat (0 : Int)
    let v3 := IntKind.i64.wrap ((v2.length : Int) - (1 : Int))
    ck (decide (0 ≤ v3) && decide (v3 ≤ v2.length)) <|
    some (.inl ((x.1.1, x.1.2.1, x.1.2.2.1, v2.take v3.toNat, x.1.2.2.2.2), ())))
    (some (.inl (x.1, ())))
noncomputable def k19l1 : LCtr := ⟨[0, 12], (.cons (.ptr 3 q10) (.cons (.val .bool) .nil)), [], [0, 4, 5], [⟨.normal, [0], (.cons (.ptr 3 q10) .nil), [some 0, some 1, some 2, none, some 4, some 5, some 6]⟩], fun _ => [], stack_Stack_int_Pop_p0_j25_v⟩
theorem k19s : LsOK Try.prog Try.f63.ntmps (codeOf Try.f63) [(393241, k19l1)] := join_E 393241 k19l1 k19 trivial (by kernel_rfl) (fun x => by kernel_rfl)
noncomputable def stack_Stack_int_Pop_p0 (x : (V_scc_finder × Unit)) : Option ((Int × Bool × V_scc_finder × Unit) ⊕ Empty) :=
  Option.bind (stack_Stack_int_Top_p0 x) fun y1 => out1 y1
    (fun z2 =>
      Option.bind (stack_Stack_int_Pop_p0_j25_v (z2.2.2.1, z2.2.1, ())) fun y3 => out1 y3
        (fun z4 =>
          some (.inl (z2.1, z2.2.1, z4))))
noncomputable def k19L : LCtr := ⟨[0], (.cons (.ptr 3 q10) .nil), [], [], [⟨.ret, [2, 3, 0], q15, [some 0, some 1, some 2, none, some 4, some 5, some 6]⟩], fun _ => [], stack_Stack_int_Pop_p0⟩
noncomputable def stack_Stack_int_Pop_p0_c : PI := mkPI Try.f63 k19L
theorem stack_Stack_int_Pop_p0_ok : PIOK Try.prog 63 stack_Stack_int_Pop_p0_c := proc_E k19 Try.func63 k19s (by kernel_rfl) (fun x => by kernel_rfl)
/-! ### (*easement/scc.finder).closes: function 53, at objects -/
noncomputable def k20 : FE Try.prog := ⟨[], [(63, [stack_Stack_int_Pop_p0_c])], [], [(58, 0)], trivial, ⟨⟨stack_Stack_int_Pop_p0_ok, trivial⟩, trivial⟩, ⟨S189_ok, trivial⟩⟩
noncomputable def scc_finder_closes_p0_l4_step (g : (V_scc_finder × Int × (List Int) × Unit) → Option ((V_scc_finder × (List Int) × Unit) ⊕ Empty)) (x : (V_scc_finder × Int × (List Int) × Unit)) : Option ((V_scc_finder × (List Int) × Unit) ⊕ Empty) :=
  Option.bind (stack_Stack_int_Pop_p0 (x.1, ())) fun y1 => out1 y1
    (fun z2 =>
      ck (inB z2.1 (z2.2.2.1.2.2.2.2.1.length)) <|
      ck (roomB (x.2.2.1 ++ [z2.1]).length 10) <|
      cond (z2.1 == x.2.1)
        (let v1 := z2.2.2.1.2.2.2.2.2.2.1 ++ [srt (x.2.2.1 ++ [z2.1])]
        ck (roomB v1.length 26) <|
        some (.inl ((z2.2.2.1.1, z2.2.2.1.2.1, z2.2.2.1.2.2.1, z2.2.2.1.2.2.2.1, z2.2.2.1.2.2.2.2.1.set z2.1.toNat (0 : Int), z2.2.2.1.2.2.2.2.2.1, v1, z2.2.2.1.2.2.2.2.2.2.2), srt (x.2.2.1 ++ [z2.1]), ())))
        (g ((z2.2.2.1.1, z2.2.2.1.2.1, z2.2.2.1.2.2.1, z2.2.2.1.2.2.2.1, z2.2.2.1.2.2.2.2.1.set z2.1.toNat (0 : Int), z2.2.2.1.2.2.2.2.2), x.2.1, x.2.2.1 ++ [z2.1], ())))
noncomputable def k20l1 : LCtr := ⟨[0, 1, 4], (.cons (.ptr 0 q10) (.cons (.val (.int .i64)) (.cons (.own (.int .i64)) .nil))), [some 0, some 1, some 2, none, some 4, some 5, some 6, none], [0, 1], [⟨.ret, [0, 4], (.cons (.ptr 0 q10) (.cons (.val (.lst (.int .i64))) .nil)), [some 0, some 1, some 2, none, some 4, some 5, none]⟩], fun _ => [], lim scc_finder_closes_p0_l4_step⟩
theorem k20s : LsOK Try.prog Try.f53.ntmps (codeOf Try.f53) [(4, k20l1)] := loop_E 4 k20l1 k20 trivial (by kernel_rfl) rfl (fun g x => by kernel_rfl)
noncomputable def scc_finder_closes_p0 (x : (V_scc_finder × Int × Unit)) : Option ((V_scc_finder × Unit) ⊕ Empty) :=
  ck (inB x.2.1 (x.1.2.2.1.length)) <|
  ck (inB x.2.1 (x.1.2.1.length)) <|
  cond ((x.1.2.2.1.getD x.2.1.toNat (Ty.dflt (.int .i64))) != (x.1.2.1.getD x.2.1.toNat (Ty.dflt (.int .i64))))
    (some (.inl (x.1, ())))
    (Option.bind (lim scc_finder_closes_p0_l4_step (x.1, x.2.1, ([] : List Int), ())) fun y3 => out1 y3
      (fun z4 =>
        some (.inl (z4.1, ()))))
noncomputable def k20L : LCtr := ⟨[0, 1], (.cons (.ptr 0 q10) (.cons (.val (.int .i64)) .nil)), [], [], [⟨.ret, [0], (.cons (.ptr 0 q10) .nil), [some 0, some 1, some 2, none, some 4, some 5, none]⟩], fun _ => [], scc_finder_closes_p0⟩
noncomputable def scc_finder_closes_p0_c : PI := mkPI Try.f53 k20L
theorem scc_finder_closes_p0_ok : PIOK Try.prog 53 scc_finder_closes_p0_c := proc_E k20 Try.func53 k20s (by kernel_rfl) (fun x => by kernel_rfl)
/-! ### (*easement/scc.finder).goes: function 38, at objects -/
noncomputable def k21 : FE Try.prog := ⟨[], [(50, [scc_finder_opens_p0_c]), (51, [stack_Stack_scc_call_Pop_p0_c]), (52, [stack_Stack_scc_call_Push_p0_c]), (53, [scc_finder_closes_p0_c])], [(55, [1])], [], trivial, ⟨⟨scc_finder_opens_p0_ok, trivial⟩, ⟨stack_Stack_scc_call_Pop_p0_ok, trivial⟩, ⟨stack_Stack_scc_call_Push_p0_ok, trivial⟩, ⟨scc_finder_closes_p0_ok, trivial⟩, trivial⟩, trivial⟩
noncomputable def scc_finder_goes_p0_j119_v (x : (V_scc_finder × V_scc_call × Int × Bool × Unit)) : Option ((V_scc_finder × V_scc_call × Unit) ⊕ Empty) :=
  cond (x.2.2.2.1)
    (ck (inB x.2.1.1 (x.1.2.2.1.length)) <|
    ck (inB x.2.2.1 (x.1.2.2.1.length)) <|
    ck (inB x.2.1.1 (x.1.2.2.1.length)) <|
    some (.inl ((x.1.1, x.1.2.1, x.1.2.2.1.set x.2.1.1.toNat (minI (x.1.2.2.1.getD x.2.1.1.toNat (Ty.dflt (.int .i64))) (x.1.2.2.1.getD x.2.2.1.toNat (Ty.dflt (.int .i64)))), x.1.2.2.2), x.2.1, ())))
    (some (.inl (x.1, x.2.1, ())))
noncomputable def k21l1 : LCtr := ⟨[0, 4, 7, 59], (.cons (.ptr 0 q10) (.cons (.ptr 0 (.cons (.val (.int .i64)) (.cons (.val (.lst (.int .i64))) .nil))) (.cons (.val (.int .i64)) (.cons (.val .bool) .nil)))), [], [0, 4, 21, 22, 23], [⟨.normal, [0, 4], q18, [some 0, some 1, some 2, some 3, some 4, some 5, some 6, some 7]⟩], fun _ => [], scc_finder_goes_p0_j119_v⟩
noncomputable def scc_finder_goes_p0_l8_step (g : (V_scc_finder × V_scc_call × (List Int) × Int × Int × Unit) → Option T5) (x : (V_scc_finder × V_scc_call × (List Int) × Int × Int × Unit)) : Option T5 :=
  cond (decide (x.2.2.2.2.1 < x.2.2.2.1))
    (ck (inB x.2.2.2.2.1 (x.2.2.1.length)) <|
    let v1 := rdL (.int .i64) x.2.2.1 x.2.2.2.2.1
    ck (inB v1 (x.1.2.1.length)) <|
    cond ((x.1.2.1.getD v1.toNat (Ty.dflt (.int .i64))) == (0 : Int))
      (ck (decide (0 ≤ x.2.2.2.2.1) && decide (x.2.2.2.2.1 ≤ x.2.1.2.1.length)) <|
      Option.bind (stack_Stack_scc_call_Push_p0 ((x.1.1, x.1.2.1, x.1.2.2.1, x.1.2.2.2.1, x.1.2.2.2.2.1, x.1.2.2.2.2.2.1, x.1.2.2.2.2.2.2.1, IntKind.i64.wrap (x.1.2.2.2.2.2.2.2.1 + (1 : Int)), ()), [(x.2.1.1, x.2.1.2.1.drop x.2.2.2.2.1.toNat, ())], ())) fun y5 => out1 y5
        (fun z6 =>
          Option.bind (scc_finder_opens_p0 (z6.1, v1, ())) fun y7 => out1 y7
            (fun z8 =>
              some (.inl (z8.1, x.2.1, ())))))
      (ck (inB v1 (x.1.2.2.2.2.1.length)) <|
      Option.bind (scc_finder_goes_p0_j119_v ((x.1.1, x.1.2.1, x.1.2.2.1, x.1.2.2.2.1, x.1.2.2.2.2.1, x.1.2.2.2.2.2.1, x.1.2.2.2.2.2.2.1, IntKind.i64.wrap (x.1.2.2.2.2.2.2.2.1 + (1 : Int)), ()), x.2.1, v1, decide ((x.1.2.2.2.2.1.getD v1.toNat (Ty.dflt (.int .i64))) > (0 : Int)), ())) fun y9 => out1 y9
        (fun z10 =>
          g (z10.1, z10.2.1, x.2.2.1, x.2.2.2.1, IntKind.i64.wrap (x.2.2.2.2.1 + (1 : Int)), ()))))
    (some (.inr (.inl (x.1, x.2.1, ()))))
noncomputable def k21l2 : LCtr := ⟨[0, 4, 21, 22, 23], (.cons (.ptr 0 q10) (.cons (.ptr 0 (.cons (.val (.int .i64)) (.cons (.val (.lst (.int .i64))) .nil))) (.cons (.val (.lst (.int .i64))) (.cons (.val (.int .i64)) (.cons (.val (.int .i64)) .nil))))), [some 0, some 1, some 2, some 3, some 4, some 5, some 6, some 7], [0, 4], [⟨(.exit 1), [0, 4], q18, [some 0, some 1, some 2, none, some 4, none, some 6, some 7]⟩, ⟨(.exit 2), [0, 4], q18, [some 0, some 1, some 2, some 3, some 4, some 5, some 6, some 7]⟩], fun _ => [], lim scc_finder_goes_p0_l8_step⟩
noncomputable def scc_finder_goes_p0_l2_step (g : (V_scc_finder × Unit) → Option ((V_scc_finder × Unit) ⊕ Empty)) (x : (V_scc_finder × Unit)) : Option ((V_scc_finder × Unit) ⊕ Empty) :=
  Option.bind (stack_Stack_scc_call_Pop_p0 x) fun y3 => out1 y3
    (fun z4 =>
      cond (!z4.2.1)
        (some (.inl z4.2.2))
        (Option.bind (lim scc_finder_goes_p0_l8_step (z4.2.2.1, z4.1, z4.1.2.1, (z4.1.2.1.length : Int), (0 : Int), ())) fun y11 => out2 y11
          (fun z12 =>
            g (z12.1, ()))
          (fun z13 =>
            Option.bind (scc_finder_closes_p0 (z13.1, z13.2.1.1, ())) fun y14 => out1 y14
              (fun z15 =>
                g z15))))
noncomputable def k21l3 : LCtr := ⟨[0], (.cons (.ptr 0 q10) .nil), [some 0, some 1, some 2, none, some 4, none, none], [0, 1], [⟨.ret, [0], (.cons (.ptr 0 q10) .nil), [some 0, some 1, some 2, none, some 4, none, none]⟩], fun _ => [], lim scc_finder_goes_p0_l2_step⟩
theorem k21s : LsOK Try.prog Try.f38.ntmps (codeOf Try.f38) [(2, k21l3), (8, k21l2), (1441911, k21l1)] := loop_E 2 k21l3 k21 (loop_E 8 k21l2 k21 (join_E 1441911 k21l1 k21 trivial (by kernel_rfl) (fun x => by kernel_rfl)) (by kernel_rfl) rfl (fun g x => by kernel_rfl)) (by kernel_rfl) rfl (fun g x => by kernel_rfl)
noncomputable def scc_finder_goes_p0 (x : (V_scc_finder × Int × Unit)) : Option ((V_scc_finder × Unit) ⊕ Empty) :=
  Option.bind (scc_finder_opens_p0 x) fun y1 => out1 y1
    (fun z2 =>
      Option.bind (lim scc_finder_goes_p0_l2_step z2) fun y16 => out1 y16
        (fun z17 =>
          some (.inl z17)))
noncomputable def k21L : LCtr := ⟨[0, 1], (.cons (.ptr 0 q10) (.cons (.val (.int .i64)) .nil)), [], [], [⟨.ret, [0], (.cons (.ptr 0 q10) .nil), [some 0, some 1, some 2, none, some 4, none, none]⟩], fun _ => [], scc_finder_goes_p0⟩
noncomputable def scc_finder_goes_p0_c : PI := mkPI Try.f38 k21L
theorem scc_finder_goes_p0_ok : PIOK Try.prog 38 scc_finder_goes_p0_c := proc_E k21 Try.func38 k21s (by kernel_rfl) (fun x => by kernel_rfl)
/-! ### (*easement/tick.Counter).Add: function 39, at objects -/
noncomputable def tick_Counter_Add_p0 (x : (Unit × Int × Int × Unit)) : Option (Unit ⊕ Empty) :=
  some (.inl ())
noncomputable def k22L : LCtr := ⟨[0, 1, 2], (.cons (.cst true) (.cons (.val (.int .i64)) (.cons (.val (.int .i64)) .nil))), [], [], [⟨.ret, [], .nil, []⟩], fun _ => [], tick_Counter_Add_p0⟩
noncomputable def tick_Counter_Add_p0_c : PI := mkPI Try.f39 k22L
theorem tick_Counter_Add_p0_ok : PIOK Try.prog 39 tick_Counter_Add_p0_c := proc_E (ls := []) k0 Try.func39 trivial (by kernel_rfl) (fun x => by kernel_rfl)
/-! ### (*easement/graph.Graph).Arcs: function 45 -/
noncomputable def graph_Graph_Arcs (x : ((Option V_graph_Graph) × Unit)) : Option (Int × Unit) :=
  cond (x.1.isNone)
    (some ((0 : Int), ()))
    (ck (x.1.isSome) <|
    some (((x.1.getD (Ty.dflt (.cons (.int .i64) (.cons (.lst t_easementref08_Pair) (.cons (.lst (.int .i32)) (.cons (.lst (.int .i32)) (.cons (.lst (.int .i32)) (.cons (.lst (.int .i32)) .nil)))))))).2.1.length : Int), ()))
noncomputable def graph_Graph_Arcs_c : Ctr := ⟨(.cons (.ptr (.cons (.int .i64) (.cons (.lst t_easementref08_Pair) (.cons (.lst (.int .i32)) (.cons (.lst (.int .i32)) (.cons (.lst (.int .i32)) (.cons (.lst (.int .i32)) .nil))))))) .nil), (.cons (.int .i64) .nil), graph_Graph_Arcs, none⟩
theorem graph_Graph_Arcs_ok : CtrOK Try.prog 45 graph_Graph_Arcs_c := fun_E (ls := []) k0 Try.func45 trivial (by kernel_rfl) (fun x => by kernel_rfl)
/-! ### (*easement/graph.Graph).Arc: function 46 -/
noncomputable def k24 : FE Try.prog := ⟨[(45, graph_Graph_Arcs_c)], [], [], [], ⟨graph_Graph_Arcs_ok, trivial⟩, trivial, trivial⟩
noncomputable def graph_Graph_Arc (x : ((Option V_graph_Graph) × Int × Unit)) : Option (V_easementref08_Pair × Bool × Unit) :=
  cond (!(decide (x.2.1 < (0 : Int))))
    (Option.bind (graph_Graph_Arcs (x.1, ())) fun y1 =>
    cond (decide (x.2.1 ≥ y1.1))
      (some (((0 : Int), (0 : Int), ()), false, ()))
      (ck (x.1.isSome) <|
      let v1 := (x.1.getD (Ty.dflt (.cons (.int .i64) (.cons (.lst t_easementref08_Pair) (.cons (.lst (.int .i32)) (.cons (.lst (.int .i32)) (.cons (.lst (.int .i32)) (.cons (.lst (.int .i32)) .nil)))))))).2.1
      ck (inB x.2.1 (v1.length)) <|
      some (rdL t_easementref08_Pair v1 x.2.1, true, ())))
    (some (((0 : Int), (0 : Int), ()), false, ()))
noncomputable def graph_Graph_Arc_c : Ctr := ⟨(.cons (.ptr (.cons (.int .i64) (.cons (.lst t_easementref08_Pair) (.cons (.lst (.int .i32)) (.cons (.lst (.int .i32)) (.cons (.lst (.int .i32)) (.cons (.lst (.int .i32)) .nil))))))) (.cons (.int .i64) .nil)), (.cons t_easementref08_Pair (.cons .bool .nil)), graph_Graph_Arc, none⟩
theorem graph_Graph_Arc_ok : CtrOK Try.prog 46 graph_Graph_Arc_c := fun_E (ls := []) k24 Try.func46 trivial (by kernel_rfl) (fun x => by kernel_rfl)
/-! ### (*easement/scc.least).Push: function 110, at objects -/
noncomputable def scc_least_Push_p0 (x : (V_scc_least × Int × Unit)) : Option ((V_scc_least × Unit) ⊕ Empty) :=
  ck (roomB (x.1.2.1 ++ [x.2.1]).length 10) <|
  some (.inl ((x.1.1, x.1.2.1 ++ [x.2.1], ()), ()))
noncomputable def k25L : LCtr := ⟨[0, 1], (.cons (.ptr 0 q21) (.cons (.iv 3 (.int .i64)) .nil)), [], [], [⟨.normal, [0], (.cons (.ptr 0 q21) .nil), [some 0, none]⟩], fun _ => [], scc_least_Push_p0⟩
noncomputable def scc_least_Push_p0_c : PI := mkPI Try.f110 k25L
theorem scc_least_Push_p0_ok : PIOK Try.prog 110 scc_least_Push_p0_c := proc_E (ls := []) k0 Try.func110 trivial (by kernel_rfl) (fun x => by kernel_rfl)
/-! ### (*easement/scc.least).Len: function 55, at objects -/
noncomputable def scc_least_Len_p0 (x : (V_scc_least × Unit)) : Option ((Int × V_scc_least × Unit) ⊕ Empty) :=
  some (.inl ((x.1.2.1.length : Int), x))
noncomputable def k26L : LCtr := ⟨[0], (.cons (.ptr 0 q21) .nil), [], [], [⟨.ret, [2, 0], (.cons (.val (.int .i64)) (.cons (.ptr 0 q21) .nil)), [some 0, some 1]⟩], fun _ => [], scc_least_Len_p0⟩
noncomputable def scc_least_Len_p0_c : PI := mkPI Try.f55 k26L
theorem scc_least_Len_p0_ok : PIOK Try.prog 55 scc_least_Len_p0_c := proc_E (ls := []) k0 Try.func55 trivial (by kernel_rfl) (fun x => by kernel_rfl)
/-! ### (*easement/scc.least).Less: function 108 -/
noncomputable def scc_least_Less (x : ((Option V_scc_least) × Int × Int × Unit)) : Option (Bool × Unit) :=
  ck (x.1.isSome) <|
  ck (x.1.isSome) <|
  let v1 := (x.1.getD (Ty.dflt (.cons (.lst (.lst (.int .i64))) (.cons (.lst (.int .i64)) .nil)))).2.1
  ck (inB x.2.1 (v1.length)) <|
  let v2 := (x.1.getD (Ty.dflt (.cons (.lst (.lst (.int .i64))) (.cons (.lst (.int .i64)) .nil)))).1
  ck (inB (rdL (.int .i64) v1 x.2.1) (v2.length)) <|
  let v3 := rdL (.lst (.int .i64)) v2 (rdL (.int .i64) v1 x.2.1)
  ck (inB (0 : Int) (v3.length)) <|
  ck (x.1.isSome) <|
  ck (x.1.isSome) <|
  let v4 := (x.1.getD (Ty.dflt (.cons (.lst (.lst (.int .i64))) (.cons (.lst (.int .i64)) .nil)))).2.1
  ck (inB x.2.2.1 (v4.length)) <|
  let v5 := rdL (.int .i64) v4 x.2.2.1
  let v6 := (x.1.getD (Ty.dflt (.cons (.lst (.lst (.int .i64))) (.cons (.lst (.int .i64)) .nil)))).1
  ck (inB v5 (v6.length)) <|
  let v7 := rdL (.lst (.int .i64)) v6 v5
  ck (inB (0 : Int) (v7.length)) <|
  some (decide ((rdL (.int .i64) v3 (0 : Int)) < (rdL (.int .i64) v7 (0 : Int))), ())
noncomputable def scc_least_Less_c : Ctr := ⟨(.cons (.ptr (.cons (.lst (.lst (.int .i64))) (.cons (.lst (.int .i64)) .nil))) (.cons (.int .i64) (.cons (.int .i64) .nil))), (.cons .bool .nil), scc_least_Less, none⟩
theorem scc_least_Less_ok : CtrOK Try.prog 108 scc_least_Less_c := fun_E (ls := []) k0 Try.func108 trivial (by kernel_rfl) (fun x => by kernel_rfl)
/-! ### (*easement/scc.least).Swap: function 111, at objects -/
noncomputable def scc_least_Swap_p0 (x : (V_scc_least × Int × Int × Unit)) : Option ((V_scc_least × Unit) ⊕ Empty) :=
  ck (inB x.2.2.1 (x.1.2.1.length)) <|
  ck (inB x.2.1 (x.1.2.1.length)) <|
  ck (inB x.2.1 (x.1.2.1.length)) <|
  let v1 := x.1.2.1.set x.2.1.toNat (x.1.2.1.getD x.2.2.1.toNat (Ty.dflt (.int .i64)))
  ck (inB x.2.2.1 (v1.length)) <|
  some (.inl ((x.1.1, v1.set x.2.2.1.toNat (x.1.2.1.getD x.2.1.toNat (Ty.dflt (.int .i64))), ()), ()))
noncomputable def k28L : LCtr := ⟨[0, 1, 2], q22, [], [], [⟨.normal, [0], (.cons (.ptr 0 q21) .nil), [some 0, some 1]⟩], fun _ => [], scc_least_Swap_p0⟩
noncomputable def scc_least_Swap_p0_c : PI := mkPI Try.f111 k28L
theorem scc_least_Swap_p0_ok : PIOK Try.prog 111 scc_least_Swap_p0_c := proc_E (ls := []) k0 Try.func111 trivial (by kernel_rfl) (fun x => by kernel_rfl)
/-! ### container/heap.up: function 64, at objects -/
noncomputable def k29 : FE Try.prog := ⟨[(108, scc_least_Less_c)], [(111, [scc_least_Swap_p0_c])], [], [], ⟨scc_least_Less_ok, trivial⟩, ⟨⟨scc_least_Swap_p0_ok, trivial⟩, trivial⟩, trivial⟩
noncomputable def heap_up_p0_l0_step (g : (V_scc_least × Int × Unit) → Option ((Int × V_scc_least × Unit) ⊕ Empty)) (x : (V_scc_least × Int × Unit)) : Option ((Int × V_scc_least × Unit) ⊕ Empty) :=
  ck (!decide ((2 : Int) = 0)) <|
  let v1 := IntKind.i64.wrap (Int.tdiv (IntKind.i64.wrap (x.2.1 - (1 : Int))) (2 : Int))
  cond (!(v1 == x.2.1))
    (Option.bind (scc_least_Less (some x.1, x.2.1, v1, ())) fun y1 =>
    cond (!y1.1)
      (some (.inl (x.2.1, x.1, ())))
      (Option.bind (scc_least_Swap_p0 (x.1, v1, x.2)) fun y2 => out1 y2
        (fun z3 =>
          g (z3.1, v1, ()))))
    (some (.inl (x.2.1, x.1, ())))
noncomputable def k29l1 : LCtr := ⟨[0, 1], (.cons (.ip 98 q21) (.cons (.val (.int .i64)) .nil)), [some 0, some 1], [0], [⟨(.exit 0), [1, 0], (.cons (.val (.int .i64)) (.cons (.ip 98 q21) .nil)), [some 0, some 1]⟩], fun _ => [], lim heap_up_p0_l0_step⟩
theorem k29s : LsOK Try.prog Try.f64.ntmps (codeOf Try.f64) [(0, k29l1)] := loop_E 0 k29l1 k29 trivial (by kernel_rfl) rfl (fun g x => by kernel_rfl)
noncomputable def heap_up_p0 (x : (V_scc_least × Int × Unit)) : Option ((V_scc_least × Unit) ⊕ Empty) :=
  Option.bind (lim heap_up_p0_l0_step x) fun y4 => out1 y4
    (fun z5 =>
      some (.inl z5.2))
noncomputable def k29L : LCtr := ⟨[0, 1], (.cons (.ip 98 q21) (.cons (.val (.int .i64)) .nil)), [], [], [⟨.normal, [0], (.cons (.ip 98 q21) .nil), [some 0, some 1]⟩], fun _ => [], heap_up_p0⟩
noncomputable def heap_up_p0_c : PI := mkPI Try.f64 k29L
theorem heap_up_p0_ok : PIOK Try.prog 64 heap_up_p0_c := proc_E k29 Try.func64 k29s (by kernel_rfl) (fun x => by kernel_rfl)
/-! ### container/heap.Push: function 54, at objects -/
noncomputable def k30 : FE Try.prog := ⟨[], [(110, [scc_least_Push_p0_c]), (55, [scc_least_Len_p0_c]), (64, [heap_up_p0_c])], [], [], trivial, ⟨⟨scc_least_Push_p0_ok, trivial⟩, ⟨scc_least_Len_p0_ok, trivial⟩, ⟨heap_up_p0_ok, trivial⟩, trivial⟩, trivial⟩
noncomputable def heap_Push_p0 (x : (V_scc_least × Int × Unit)) : Option ((V_scc_least × Unit) ⊕ Empty) :=
  Option.bind (scc_least_Push_p0 x) fun y1 => out1 y1
    (fun z2 =>
      Option.bind (scc_least_Len_p0 z2) fun y3 => out1 y3
        (fun z4 =>
          Option.bind (heap_up_p0 (z4.2.1, IntKind.i64.wrap (z4.1 - (1 : Int)), ())) fun y5 => out1 y5
            (fun z6 =>
              some (.inl z6))))
noncomputable def k30L : LCtr := ⟨[0, 1], (.cons (.ip 98 q21) (.cons (.iv 3 (.int .i64)) .nil)), [], [], [⟨.normal, [0], (.cons (.ip 98 q21) .nil), [some 0, none]⟩], fun _ => [], heap_Push_p0⟩
noncomputable def heap_Push_p0_c : PI := mkPI Try.f54 k30L
theorem heap_Push_p0_ok : PIOK Try.prog 54 heap_Push_p0_c := proc_E (ls := []) k30 Try.func54 trivial (by kernel_rfl) (fun x => by kernel_rfl)
/-! ### (*easement/graph.Graph).Turn: function 16 -/
noncomputable def graph_Graph_Turn_l10_step (g : T6 → Option ((V_graph_Graph × Unit) ⊕ Empty)) (x : T6) : Option ((V_graph_Graph × Unit) ⊕ Empty) :=
  cond (decide (x.2.2.2.1 < x.2.2.1))
    (ck (inB x.2.2.2.1 (x.2.1.length)) <|
    ck (inB x.2.2.2.1 (x.1.2.1.length)) <|
    let v1 := rdL t_easementref08_Pair x.2.1 x.2.2.2.1
    g ((x.1.1, x.1.2.1.set x.2.2.2.1.toNat (v1.2.1, v1.1, (x.1.2.1.getD x.2.2.2.1.toNat (Ty.dflt t_easementref08_Pair)).2.2), x.1.2.2), x.2.1, x.2.2.1, IntKind.i64.wrap (x.2.2.2.1 + (1 : Int)), ()))
    (some (.inl (x.1, ())))
noncomputable def k31l1 : LCtr := ⟨[3, 39, 40, 41], (.cons (.ptr 0 q23) (.cons (.val (.lst t_easementref08_Pair)) (.cons (.val (.int .i64)) (.cons (.val (.int .i64)) .nil)))), [some 0, some 1], [3], [⟨(.exit 0), [3], (.cons (.ptr 0 q23) .nil), [some 0, some 1]⟩], fun _ => [], lim graph_Graph_Turn_l10_step⟩
theorem k31s : LsOK Try.prog Try.f16.ntmps (codeOf Try.f16) [(10, k31l1)] := loop_E 10 k31l1 k0 trivial (by kernel_rfl) rfl (fun g x => by kernel_rfl)
noncomputable def graph_Graph_Turn (x : ((Option V_graph_Graph) × Unit)) : Option ((Option V_graph_Graph) × Unit) :=
  cond (x.1.isNone)
    (some ((none : Option V_graph_Graph), ()))
    (ck (x.1.isSome) <|
    ck (x.1.isSome) <|
    let v1 := ((x.1.getD (Ty.dflt (.cons (.int .i64) (.cons (.lst t_easementref08_Pair) (.cons (.lst (.int .i32)) (.cons (.lst (.int .i32)) (.cons (.lst (.int .i32)) (.cons (.lst (.int .i32)) .nil)))))))).2.1.length : Int)
    ck (decide (0 ≤ v1) && decide (v1 ≤ v1) && decide (v1 * ((19 : Nat) : Int) ≤ 35184372088832)) <|
    ck (x.1.isSome) <|
    ck (x.1.isSome) <|
    ck (x.1.isSome) <|
    ck (x.1.isSome) <|
    ck (x.1.isSome) <|
    let v2 := (x.1.getD (Ty.dflt (.cons (.int .i64) (.cons (.lst t_easementref08_Pair) (.cons (.lst (.int .i32)) (.cons (.lst (.int .i32)) (.cons (.lst (.int .i32)) (.cons (.lst (.int .i32)) .nil)))))))).2.1
    Option.bind (lim graph_Graph_Turn_l10_step (((x.1.getD (Ty.dflt (.cons (.int .i64) (.cons (.lst t_easementref08_Pair) (.cons (.lst (.int .i32)) (.cons (.lst (.int .i32)) (.cons (.lst (.int .i32)) (.cons (.lst (.int .i32)) .nil)))))))).1, List.replicate v1.toNat (((0 : Int), (0 : Int), ()) : V_easementref08_Pair), (x.1.getD (Ty.dflt (.cons (.int .i64) (.cons (.lst t_easementref08_Pair) (.cons (.lst (.int .i32)) (.cons (.lst (.int .i32)) (.cons (.lst (.int .i32)) (.cons (.lst (.int .i32)) .nil)))))))).2.2.2.1, (x.1.getD (Ty.dflt (.cons (.int .i64) (.cons (.lst t_easementref08_Pair) (.cons (.lst (.int .i32)) (.cons (.lst (.int .i32)) (.cons (.lst (.int .i32)) (.cons (.lst (.int .i32)) .nil)))))))).2.2.1, (x.1.getD (Ty.dflt (.cons (.int .i64) (.cons (.lst t_easementref08_Pair) (.cons (.lst (.int .i32)) (.cons (.lst (.int .i32)) (.cons (.lst (.int .i32)) (.cons (.lst (.int .i32)) .nil)))))))).2.2.2.2.2.1, (x.1.getD (Ty.dflt (.cons (.int .i64) (.cons (.lst t_easementref08_Pair) (.cons (.lst (.int .i32)) (.cons (.lst (.int .i32)) (.cons (.lst (.int .i32)) (.cons (.lst (.int .i32)) .nil)))))))).2.2.2.2.1, ()), v2, (v2.length : Int), (0 : Int), ())) fun y1 => out1 y1
      (fun z2 =>
        some (some z2.1, ())))
noncomputable def graph_Graph_Turn_c : Ctr := ⟨(.cons (.ptr (.cons (.int .i64) (.cons (.lst t_easementref08_Pair) (.cons (.lst (.int .i32)) (.cons (.lst (.int .i32)) (.cons (.lst (.int .i32)) (.cons (.lst (.int .i32)) .nil))))))) .nil), (.cons (.ptr (.cons (.int .i64) (.cons (.lst t_easementref08_Pair) (.cons (.lst (.int .i32)) (.cons (.lst (.int .i32)) (.cons (.lst (.int .i32)) (.cons (.lst (.int .i32)) .nil))))))) .nil), graph_Graph_Turn, none⟩
theorem graph_Graph_Turn_ok : CtrOK Try.prog 16 graph_Graph_Turn_c := fun_E k0 Try.func16 k31s (by kernel_rfl) (fun x => by kernel_rfl)
/-! ### (*easement/scc.least).Less: function 108, at objects -/
noncomputable def scc_least_Less_p0 (x : (V_scc_least × Int × Int × Unit)) : Option ((Bool × V_scc_least × Unit) ⊕ Empty) :=
  ck (inB x.2.1 (x.1.2.1.length)) <|
  let v1 := x.1.2.1.getD x.2.1.toNat (Ty.dflt (.int .i64))
  ck (inB v1 (x.1.1.length)) <|
  let v2 := rdL (.lst (.int .i64)) x.1.1 v1
  ck (inB (0 : Int) (v2.length)) <|
  ck (inB x.2.2.1 (x.1.2.1.length)) <|
  let v3 := x.1.2.1.getD x.2.2.1.toNat (Ty.dflt (.int .i64))
  ck (inB v3 (x.1.1.length)) <|
  let v4 := rdL (.lst (.int .i64)) x.1.1 v3
  ck (inB (0 : Int) (v4.length)) <|
  some (.inl (decide ((rdL (.int .i64) v2 (0 : Int)) < (rdL (.int .i64) v4 (0 : Int))), x.1, ()))
noncomputable def k32L : LCtr := ⟨[0, 1, 2], q22, [], [], [⟨.ret, [6, 0], (.cons (.val .bool) (.cons (.ptr 0 q21) .nil)), [some 0, some 1]⟩], fun _ => [], scc_least_Less_p0⟩
noncomputable def scc_least_Less_p0_c : PI := mkPI Try.f108 k32L
theorem scc_least_Less_p0_ok : PIOK Try.prog 108 scc_least_Less_p0_c := proc_E (ls := []) k0 Try.func108 trivial (by kernel_rfl) (fun x => by kernel_rfl)
/-! ### container/heap.down: function 65, at objects -/
noncomputable def k33 : FE Try.prog := ⟨[(108, scc_least_Less_c)], [(108, [scc_least_Less_p0_c]), (111, [scc_least_Swap_p0_c])], [], [], ⟨scc_least_Less_ok, trivial⟩, ⟨⟨scc_least_Less_p0_ok, trivial⟩, ⟨scc_least_Swap_p0_ok, trivial⟩, trivial⟩, trivial⟩
noncomputable def heap_down_p0_j67_v (x : V_easementref22_Point) : Option ((Int × Unit) ⊕ Empty) :=
  cond (x.2.2.1)
    (some (.inl (x.2.1, ())))
    (some (.inl (x.1, ())))
noncomputable def k33l1 : LCtr := ⟨[9, 10, 33], q25, [], [0, 2, 7], [⟨.normal, [9], (.cons (.val (.int .i64)) .nil), []⟩], fun _ => [], heap_down_p0_j67_v⟩
noncomputable def heap_down_p0_l4_step (g : (V_scc_least × Int × Int × Unit) → Option ((Int × V_scc_least × Unit) ⊕ Empty)) (x : (V_scc_least × Int × Int × Unit)) : Option ((Int × V_scc_least × Unit) ⊕ Empty) :=
  let v1 := IntKind.i64.wrap ((IntKind.i64.wrap ((2 : Int) * x.2.2.1)) + (1 : Int))
  cond (cond (decide (v1 ≥ x.2.1)) true (decide (v1 < (0 : Int))))
    (some (.inl (x.2.2.1, x.1, ())))
    (let v2 := IntKind.i64.wrap (v1 + (1 : Int))
    cond (decide (v2 < x.2.1))
      (Option.bind (scc_least_Less (some x.1, v2, v1, ())) fun y1 =>
      Option.bind (heap_down_p0_j67_v (v1, v2, y1)) fun y2 => out1 y2
        (fun z3 =>
          Option.bind (scc_least_Less_p0 (x.1, z3.1, x.2.2)) fun y4 => out1 y4
            (fun z5 =>
              cond (!z5.1)
                (some (.inl (x.2.2.1, z5.2)))
                (Option.bind (scc_least_Swap_p0 (z5.2.1, x.2.2.1, z3)) fun y6 => out1 y6
                  (fun z7 =>
                    g (z7.1, x.2.1, z3))))))
      (Option.bind (heap_down_p0_j67_v (v1, v2, false, ())) fun y8 => out1 y8
        (fun z9 =>
          Option.bind (scc_least_Less_p0 (x.1, z9.1, x.2.2)) fun y10 => out1 y10
            (fun z11 =>
              cond (!z11.1)
                (some (.inl (x.2.2.1, z11.2)))
                (Option.bind (scc_least_Swap_p0 (z11.2.1, x.2.2.1, z9)) fun y12 => out1 y12
                  (fun z13 =>
                    g (z13.1, x.2.1, z9)))))))
noncomputable def k33l2 : LCtr := ⟨[0, 2, 7], q26, [some 0, some 1], [0, 1, 2], [⟨(.exit 0), [7, 0], (.cons (.val (.int .i64)) (.cons (.ip 98 q21) .nil)), [some 0, some 1]⟩], fun _ => [], lim heap_down_p0_l4_step⟩
theorem k33s : LsOK Try.prog Try.f65.ntmps (codeOf Try.f65) [(4, k33l2), (917571, k33l1)] := loop_E 4 k33l2 k33 (join_E 917571 k33l1 k33 trivial (by kernel_rfl) (fun x => by kernel_rfl)) (by kernel_rfl) rfl (fun g x => by kernel_rfl)
noncomputable def heap_down_p0 (x : (V_scc_least × Int × Int × Unit)) : Option ((Bool × V_scc_least × Unit) ⊕ Empty) :=
  Option.bind (lim heap_down_p0_l4_step (x.1, x.2.2.1, x.2.1, ())) fun y14 => out1 y14
    (fun z15 =>
      some (.inl (decide (z15.1 > x.2.1), z15.2)))
noncomputable def k33L : LCtr := ⟨[0, 1, 2], q26, [], [], [⟨.ret, [6, 0], (.cons (.val .bool) (.cons (.ip 98 q21) .nil)), [some 0, some 1]⟩], fun _ => [], heap_down_p0⟩
noncomputable def heap_down_p0_c : PI := mkPI Try.f65 k33L
theorem heap_down_p0_ok : PIOK Try.prog 65 heap_down_p0_c := proc_E k33 Try.func65 k33s (by kernel_rfl) (fun x => by kernel_rfl)
/-! ### (*easement/scc.least).Pop: function 109, at objects -/
noncomputable def scc_least_Pop_p0 (x : (V_scc_least × Unit)) : Option ((Int × V_scc_least × Unit) ⊕ Empty) :=
  let v1 := IntKind.i64.wrap ((x.1.2.1.length : Int) - (1 : Int))
  ck (inB v1 (x.1.2.1.length)) <|
  let v2 := IntKind.i64.wrap ((x.1.2.1.length : Int) - (1 : Int))
  ck (decide (0 ≤ v2) && decide (v2 ≤ x.1.2.1.length)) <|
  some (.inl (x.1.2.1.getD v1.toNat (Ty.dflt (.int .i64)), (x.1.1, x.1.2.1.take v2.toNat, ()), ()))
noncomputable def k34L : LCtr := ⟨[0], (.cons (.ptr 0 q21) .nil), [], [], [⟨.ret, [2, 0], (.cons (.iv 3 (.int .i64)) (.cons (.ptr 0 q21) .nil)), [some 0, none]⟩], fun _ => [], scc_least_Pop_p0⟩
noncomputable def scc_least_Pop_p0_c : PI := mkPI Try.f109 k34L
theorem scc_least_Pop_p0_ok : PIOK Try.prog 109 scc_least_Pop_p0_c := proc_E (ls := []) k0 Try.func109 trivial (by kernel_rfl) (fun x => by kernel_rfl)
/-! ### container/heap.Pop: function 56, at objects -/
noncomputable def k35 : FE Try.prog := ⟨[], [(55, [scc_least_Len_p0_c]), (111, [scc_least_Swap_p0_c]), (65, [heap_down_p0_c]), (109, [scc_least_Pop_p0_c])], [], [], trivial, ⟨⟨scc_least_Len_p0_ok, trivial⟩, ⟨scc_least_Swap_p0_ok, trivial⟩, ⟨heap_down_p0_ok, trivial⟩, ⟨scc_least_Pop_p0_ok, trivial⟩, trivial⟩, trivial⟩
noncomputable def heap_Pop_p0 (x : (V_scc_least × Unit)) : Option ((Int × V_scc_least × Unit) ⊕ Empty) :=
  Option.bind (scc_least_Len_p0 x) fun y1 => out1 y1
    (fun z2 =>
      let v1 := IntKind.i64.wrap (z2.1 - (1 : Int))
      Option.bind (scc_least_Swap_p0 (z2.2.1, (0 : Int), v1, ())) fun y3 => out1 y3
        (fun z4 =>
          Option.bind (heap_down_p0 (z4.1, (0 : Int), v1, ())) fun y5 => out1 y5
            (fun z6 =>
              Option.bind (scc_least_Pop_p0 z6.2) fun y7 => out1 y7
                (fun z8 =>
                  some (.inl z8)))))
noncomputable def k35L : LCtr := ⟨[0], (.cons (.ip 98 q21) .nil), [], [], [⟨.ret, [2, 0], (.cons (.iv 3 (.int .i64)) (.cons (.ip 98 q21) .nil)), [some 0, none]⟩], fun _ => [], heap_Pop_p0⟩
noncomputable def heap_Pop_p0_c : PI := mkPI Try.f56 k35L
theorem heap_Pop_p0_ok : PIOK Try.prog 56 heap_Pop_p0_c := proc_E (ls := []) k35 Try.func56 trivial (by kernel_rfl) (fun x => by kernel_rfl)
/-! ### easement/scc.ordered: function 40, at objects -/
noncomputable def k36 : FE Try.prog := ⟨[(37, graph_Graph_Nodes_c), (45, graph_Graph_Arcs_c), (46, graph_Graph_Arc_c), (16, graph_Graph_Turn_c), (57, graph_Graph_Next_c)], [(54, [heap_Push_p0_c]), (55, [scc_least_Len_p0_c]), (56, [heap_Pop_p0_c]), (39, [tick_Counter_Add_p0_c])], [], [], ⟨graph_Graph_Nodes_ok, graph_Graph_Arcs_ok, graph_Graph_Arc_ok, graph_Graph_Turn_ok, graph_Graph_Next_ok, trivial⟩, ⟨⟨heap_Push_p0_ok, trivial⟩, ⟨scc_least_Len_p0_ok, trivial⟩, ⟨heap_Pop_p0_ok, trivial⟩, ⟨tick_Counter_Add_p0_ok, trivial⟩, trivial⟩, trivial⟩
noncomputable def scc_ordered_p0_l14_step (g : ((List Int) × Int × (List Int) × Int × Int × Unit) → Option (V_point_Points ⊕ Empty)) (x : ((List Int) × Int × (List Int) × Int × Int × Unit)) : Option (V_point_Points ⊕ Empty) :=
  cond (decide (x.2.2.2.2.1 < x.2.2.2.1))
    (ck (inB x.2.2.2.2.1 (x.2.2.1.length)) <|
    let v1 := rdL (.int .i64) x.2.2.1 x.2.2.2.2.1
    ck (inB v1 (x.1.length)) <|
    g (x.1.set v1.toNat x.2.1, x.2.1, x.2.2.1, x.2.2.2.1, IntKind.i64.wrap (x.2.2.2.2.1 + (1 : Int)), ()))
    (some (.inl (x.1, ())))
noncomputable def k36l1 : LCtr := ⟨[8, 9, 42, 43, 44], q27, [some 0], [8, 35, 36, 37], [⟨(.exit 2), [8], (.cons (.own (.int .i64)) .nil), [some 0]⟩], fun _ => [], lim scc_ordered_p0_l14_step⟩
noncomputable def scc_ordered_p0_l8_step (g : ((List Int) × (List (List Int)) × Int × Int × Unit) → Option (V_point_Points ⊕ Empty)) (x : ((List Int) × (List (List Int)) × Int × Int × Unit)) : Option (V_point_Points ⊕ Empty) :=
  cond (decide (x.2.2.2.1 < x.2.2.1))
    (ck (inB x.2.2.2.1 (x.2.1.length)) <|
    let v1 := rdL (.lst (.int .i64)) x.2.1 x.2.2.2.1
    Option.bind (lim scc_ordered_p0_l14_step (x.1, x.2.2.2.1, v1, (v1.length : Int), (0 : Int), ())) fun y3 => out1 y3
      (fun z4 =>
        g (z4.1, x.2.1, x.2.2.1, IntKind.i64.wrap (x.2.2.2.1 + (1 : Int)), ())))
    (some (.inl (x.1, ())))
noncomputable def k36l2 : LCtr := ⟨[8, 35, 36, 37], q28, [some 0], [0, 1, 2, 7, 8], [⟨(.exit 0), [8], (.cons (.own (.int .i64)) .nil), [some 0]⟩], fun _ => [], lim scc_ordered_p0_l8_step⟩
noncomputable def scc_ordered_p0_j157_v (x : T7) : Option T8 :=
  cond (x.2.2.2.1)
    (ck (inB x.1.1 (x.2.1.length)) <|
    let v1 := x.2.1.getD x.1.1.toNat (Ty.dflt (.int .i64))
    ck (inB v1 (x.2.2.1.length)) <|
    ck (inB v1 (x.2.2.1.length)) <|
    some (.inl (x.1, x.2.1, x.2.2.1.set v1.toNat (IntKind.i64.wrap ((x.2.2.1.getD v1.toNat (Ty.dflt (.int .i64))) + (1 : Int))), ())))
    (some (.inl (x.1, x.2.1, x.2.2.1, ())))
noncomputable def k36l3 : LCtr := ⟨[15, 8, 13, 78], q29, [], [0, 8, 13, 58, 59], [⟨.normal, [15, 8, 13], q30, [some 0, some 1, some 2]⟩], fun _ => [], scc_ordered_p0_j157_v⟩
noncomputable def scc_ordered_p0_l28_step (g : T9 → Option (((List Int) × (List Int) × Unit) ⊕ Empty)) (x : T9) : Option (((List Int) × (List Int) × Unit) ⊕ Empty) :=
  cond (decide (x.2.2.2.2.1 < x.2.2.2.1))
    (Option.bind (graph_Graph_Arc (x.1, x.2.2.2.2)) fun y8 =>
    ck (inB y8.1.1 (x.2.1.length)) <|
    ck (inB y8.1.2.1 (x.2.1.length)) <|
    Option.bind (scc_ordered_p0_j157_v (y8.1, x.2.1, x.2.2.1, (x.2.1.getD y8.1.1.toNat (Ty.dflt (.int .i64))) != (x.2.1.getD y8.1.2.1.toNat (Ty.dflt (.int .i64))), ())) fun y9 => out1 y9
      (fun z10 =>
        g (x.1, z10.2.1, z10.2.2.1, x.2.2.2.1, IntKind.i64.wrap (x.2.2.2.2.1 + (1 : Int)), ())))
    (some (.inl (x.2.1, x.2.2.1, ())))
noncomputable def k36l4 : LCtr := ⟨[0, 8, 13, 58, 59], q31, [some 0, some 1], [0, 1, 2, 7, 8, 13], [⟨(.exit 4), [8, 13], (.cons (.own (.int .i64)) (.cons (.own (.int .i64)) .nil)), [some 0, some 1]⟩], fun _ => [], lim scc_ordered_p0_l28_step⟩
noncomputable def scc_ordered_p0_j203_v (x : (V_scc_least × Int × Bool × Unit)) : Option ((V_scc_least × Unit) ⊕ Empty) :=
  cond (x.2.2.1)
    (Option.bind (heap_Push_p0 (x.1, x.2.1, ())) fun y13 => out1 y13
      (fun z14 =>
        some (.inl z14)))
    (some (.inl (x.1, ())))
noncomputable def k36l5 : LCtr := ⟨[17, 18, 101], q32, [], [17, 93, 94, 95], [⟨.normal, [17], (.cons (.ptr 0 q21) .nil), [some 0, none]⟩], fun _ => [], scc_ordered_p0_j203_v⟩
noncomputable def scc_ordered_p0_l44_step (g : (V_scc_least × (List Int) × Int × Int × Unit) → Option ((V_scc_least × (List Int) × Unit) ⊕ Empty)) (x : (V_scc_least × (List Int) × Int × Int × Unit)) : Option ((V_scc_least × (List Int) × Unit) ⊕ Empty) :=
  cond (decide (x.2.2.2.1 < x.2.2.1))
    (ck (inB x.2.2.2.1 (x.2.1.length)) <|
    Option.bind (scc_ordered_p0_j203_v (x.1, x.2.2.2.1, (x.2.1.getD x.2.2.2.1.toNat (Ty.dflt (.int .i64))) == (0 : Int), ())) fun y15 => out1 y15
      (fun z16 =>
        g (z16.1, x.2.1, x.2.2.1, IntKind.i64.wrap (x.2.2.2.1 + (1 : Int)), ())))
    (some (.inl (x.1, x.2.1, ())))
noncomputable def k36l6 : LCtr := ⟨[17, 93, 94, 95], q33, [some 0, none, some 2], [0, 1, 2, 7, 8, 13, 17], [⟨(.exit 6), [17, 93], (.cons (.ptr 0 q21) (.cons (.own (.int .i64)) .nil)), [some 0, none, some 2]⟩], fun _ => [], lim scc_ordered_p0_l44_step⟩
noncomputable def scc_ordered_p0_j373_v (x : (V_scc_least × (List Int) × Int × Bool × Unit)) : Option ((V_scc_least × (List Int) × Unit) ⊕ Empty) :=
  cond (x.2.2.2.1)
    (ck (inB x.2.2.1 (x.2.1.length)) <|
    Option.bind (heap_Push_p0 (x.1, x.2.1.getD x.2.2.1.toNat (Ty.dflt (.int .i64)), ())) fun y27 => out1 y27
      (fun z28 =>
        some (.inl (z28.1, x.2.1, ()))))
    (some (.inl (x.1, x.2.1, ())))
noncomputable def k36l7 : LCtr := ⟨[17, 8, 26, 186], q34, [], [2, 8, 13, 17, 21, 156, 157, 158], [⟨.normal, [17, 8], (.cons (.ptr 0 q21) (.cons (.own (.int .i64)) .nil)), [some 0, none, some 2]⟩], fun _ => [], scc_ordered_p0_j373_v⟩
noncomputable def scc_ordered_p0_l72_step (g : T10 → Option ((V_scc_least × (List Int) × (List Int) × Unit) ⊕ Empty)) (x : T10) : Option ((V_scc_least × (List Int) × (List Int) × Unit) ⊕ Empty) :=
  cond (decide (x.2.2.2.2.2.2.2.1 < x.2.2.2.2.2.2.1))
    (ck (inB x.2.2.2.2.2.2.2.1 (x.2.2.2.2.2.1.length)) <|
    Option.bind (tick_Counter_Add_p0 ((), (4 : Int), (1 : Int), ())) fun y25 => out1 y25
      (fun z26 =>
        let v1 := rdL (.int .i64) x.2.2.2.2.2.1 x.2.2.2.2.2.2.2.1
        ck (inB v1 (x.2.2.1.length)) <|
        cond ((x.2.2.1.getD v1.toNat (Ty.dflt (.int .i64))) == x.2.2.2.2.1)
          (g (x.1, (), x.2.2.1, x.2.2.2.1, x.2.2.2.2.1, x.2.2.2.2.2.1, x.2.2.2.2.2.2.1, IntKind.i64.wrap (x.2.2.2.2.2.2.2.1 + (1 : Int)), ()))
          (ck (inB v1 (x.2.2.1.length)) <|
          let v2 := x.2.2.1.getD v1.toNat (Ty.dflt (.int .i64))
          ck (inB v2 (x.2.2.2.1.length)) <|
          ck (inB v2 (x.2.2.2.1.length)) <|
          ck (inB v1 (x.2.2.1.length)) <|
          let v3 := x.2.2.1.getD v1.toNat (Ty.dflt (.int .i64))
          let v4 := x.2.2.2.1.set v2.toNat (IntKind.i64.wrap ((x.2.2.2.1.getD v2.toNat (Ty.dflt (.int .i64))) - (1 : Int)))
          ck (inB v3 (v4.length)) <|
          Option.bind (scc_ordered_p0_j373_v (x.1, x.2.2.1, v1, (v4.getD v3.toNat (Ty.dflt (.int .i64))) == (0 : Int), ())) fun y29 => out1 y29
            (fun z30 =>
              g (z30.1, (), z30.2.1, v4, x.2.2.2.2.1, x.2.2.2.2.2.1, x.2.2.2.2.2.2.1, IntKind.i64.wrap (x.2.2.2.2.2.2.2.1 + (1 : Int)), ())))))
    (some (.inl (x.1, x.2.2.1, x.2.2.2.1, ())))
noncomputable def k36l8 : LCtr := ⟨[17, 2, 8, 13, 21, 156, 157, 158], (.cons (.ptr 0 q21) (.cons (.cst true) (.cons (.own (.int .i64)) (.cons (.own (.int .i64)) (.cons (.val (.int .i64)) (.cons (.val (.lst (.int .i64))) (.cons (.val (.int .i64)) (.cons (.val (.int .i64)) .nil)))))))), [some 0, none, some 2, some 3], [2, 7, 8, 13, 17, 20, 21, 136, 137, 138], [⟨(.exit 12), [17, 8, 13], (.cons (.ptr 0 q21) (.cons (.own (.int .i64)) (.cons (.own (.int .i64)) .nil))), [some 0, none, some 2, some 3]⟩], fun _ => [], lim scc_ordered_p0_l72_step⟩
noncomputable def scc_ordered_p0_l64_step (g : T11 → Option T12) (x : T11) : Option T12 :=
  cond (decide (x.2.2.2.2.2.2.2.2.2.1 < x.2.2.2.2.2.2.2.2.1))
    (ck (inB x.2.2.2.2.2.2.2.2.2.1 (x.2.2.2.2.2.2.2.1.length)) <|
    let v1 := rdL (.int .i64) x.2.2.2.2.2.2.2.1 x.2.2.2.2.2.2.2.2.2.1
    ck (inB v1 (x.1.1.length)) <|
    Option.bind (graph_Graph_Next (x.2.2.2.2.2.1, v1, ())) fun y24 =>
    Option.bind (lim scc_ordered_p0_l72_step (x.2.1, (), x.2.2.2.1, x.2.2.2.2.1, x.2.2.2.2.2.2.1, y24.1, (y24.1.length : Int), (0 : Int), ())) fun y31 => out1 y31
      (fun z32 =>
        g ((x.1.1.set v1.toNat (IntKind.i64.wrap ((x.1.2.1.length : Int) - (1 : Int))), x.1.2), z32.1, (), z32.2.1, z32.2.2.1, x.2.2.2.2.2.1, x.2.2.2.2.2.2.1, x.2.2.2.2.2.2.2.1, x.2.2.2.2.2.2.2.2.1, IntKind.i64.wrap (x.2.2.2.2.2.2.2.2.2.1 + (1 : Int)), ())))
    (some (.inl (x.1, x.2.1, x.2.2.2.1, x.2.2.2.2.1, ())))
noncomputable def k36l9 : LCtr := ⟨[7, 17, 2, 8, 13, 20, 21, 136, 137, 138], (.cons (.ptr 0 (.cons (.own (.int .i64)) (.cons (.own (.lst (.int .i64))) .nil))) (.cons (.ptr 0 q21) (.cons (.cst true) (.cons (.own (.int .i64)) (.cons (.own (.int .i64)) (.cons (.val (.ptr (.cons (.int .i64) (.cons (.lst t_easementref08_Pair) (.cons (.lst (.int .i32)) (.cons (.lst (.int .i32)) (.cons (.lst (.int .i32)) (.cons (.lst (.int .i32)) .nil)))))))) (.cons (.val (.int .i64)) (.cons (.val (.lst (.int .i64))) (.cons (.val (.int .i64)) (.cons (.val (.int .i64)) .nil)))))))))), [some 0, some 1, some 2, some 3, none, some 5, some 6], [1, 2, 7, 8, 13, 17, 20], [⟨(.exit 10), [7, 17, 8, 13], q38, [some 0, some 1, some 2, some 3, none, some 5, some 6]⟩], fun _ => [], lim scc_ordered_p0_l64_step⟩
noncomputable def scc_ordered_p0_l56_step (g : T13 → Option T12) (x : T13) : Option T12 :=
  Option.bind (scc_least_Len_p0 (x.2.1, ())) fun y20 => out1 y20
    (fun z21 =>
      cond (decide (z21.1 > (0 : Int)))
        (Option.bind (heap_Pop_p0 z21.2) fun y22 => out1 y22
          (fun z23 =>
            ck (inB z23.1 (x.2.2.1.length)) <|
            let v1 := x.1.2.1 ++ [rdL (.lst (.int .i64)) x.2.2.1 z23.1]
            ck (roomB v1.length 26) <|
            ck (inB z23.1 (x.2.2.1.length)) <|
            let v2 := rdL (.lst (.int .i64)) x.2.2.1 z23.1
            Option.bind (lim scc_ordered_p0_l64_step ((x.1.1, v1, ()), z23.2.1, (), x.2.2.2.2.1, x.2.2.2.2.2.1, x.2.2.2.2.2.2.1, z23.1, v2, (v2.length : Int), (0 : Int), ())) fun y33 => out1 y33
              (fun z34 =>
                g (z34.1, z34.2.1, x.2.2.1, (), z34.2.2.1, z34.2.2.2.1, x.2.2.2.2.2.2))))
        (some (.inl (x.1, z21.2.1, x.2.2.2.2.1, x.2.2.2.2.2.1, ()))))
noncomputable def k36l10 : LCtr := ⟨[7, 17, 1, 2, 8, 13, 20], (.cons (.ptr 0 (.cons (.own (.int .i64)) (.cons (.own (.lst (.int .i64))) .nil))) (.cons (.ptr 0 q21) (.cons (.val (.lst (.lst (.int .i64)))) (.cons (.cst true) (.cons (.own (.int .i64)) (.cons (.own (.int .i64)) (.cons (.val (.ptr (.cons (.int .i64) (.cons (.lst t_easementref08_Pair) (.cons (.lst (.int .i32)) (.cons (.lst (.int .i32)) (.cons (.lst (.int .i32)) (.cons (.lst (.int .i32)) .nil)))))))) .nil))))))), [some 0, some 1, none, some 3, none, some 5, some 6], [0, 1, 2, 7], [⟨(.exit 8), [7, 17, 8, 13], q38, [some 0, some 1, none, some 3, none, some 5, some 6]⟩], fun _ => [], lim scc_ordered_p0_l56_step⟩
theorem k36s : LsOK Try.prog Try.f40.ntmps (codeOf Try.f40) [(56, k36l10), (64, k36l9), (72, k36l8), (5505397, k36l7), (44, k36l6), (3277003, k36l5), (28, k36l4), (2359453, k36l3), (8, k36l2), (14, k36l1)] := loop_E 56 k36l10 k36 (loop_E 64 k36l9 k36 (loop_E 72 k36l8 k36 (join_E 5505397 k36l7 k36 (loop_E 44 k36l6 k36 (join_E 3277003 k36l5 k36 (loop_E 28 k36l4 k36 (join_E 2359453 k36l3 k36 (loop_E 8 k36l2 k36 (loop_E 14 k36l1 k36 trivial (by kernel_rfl) rfl (fun g x => by kernel_rfl)) (by kernel_rfl) rfl (fun g x => by kernel_rfl)) (by kernel_rfl) (fun x => by kernel_rfl)) (by kernel_rfl) rfl (fun g x => by kernel_rfl)) (by kernel_rfl) (fun x => by kernel_rfl)) (by kernel_rfl) rfl (fun g x => by kernel_rfl)) (by kernel_rfl) (fun x => by kernel_rfl)) (by kernel_rfl) rfl (fun g x => by kernel_rfl)) (by kernel_rfl) rfl (fun g x => by kernel_rfl)) (by kernel_rfl) rfl (fun g x => by kernel_rfl)
noncomputable def scc_ordered_p0 (x : ((Option V_graph_Graph) × (List (List Int)) × Unit × Unit)) : Option ((V_scc_Parts × Unit) ⊕ Empty) :=
  Option.bind (graph_Graph_Nodes (x.1, ())) fun y1 =>
  ck (decide (0 ≤ y1.1) && decide (y1.1 ≤ y1.1) && decide (y1.1 * ((10 : Nat) : Int) ≤ 35184372088832)) <|
  Option.bind (graph_Graph_Nodes (x.1, ())) fun y2 =>
  ck (decide (0 ≤ y2.1) && decide (y2.1 ≤ y2.1) && decide (y2.1 * ((10 : Nat) : Int) ≤ 35184372088832)) <|
  Option.bind (lim scc_ordered_p0_l8_step (List.replicate y2.1.toNat ((0 : Int) : Int), x.2.1, (x.2.1.length : Int), (0 : Int), ())) fun y5 => out1 y5
    (fun z6 =>
      ck (decide (0 ≤ (x.2.1.length : Int)) && decide ((x.2.1.length : Int) ≤ (x.2.1.length : Int)) && decide ((x.2.1.length : Int) * ((10 : Nat) : Int) ≤ 35184372088832)) <|
      Option.bind (graph_Graph_Arcs (x.1, ())) fun y7 =>
      Option.bind (lim scc_ordered_p0_l28_step (x.1, z6.1, List.replicate (x.2.1.length : Int).toNat ((0 : Int) : Int), y7.1, (0 : Int), ())) fun y11 => out1 y11
        (fun z12 =>
          Option.bind (lim scc_ordered_p0_l44_step ((x.2.1, ([] : List Int), ()), z12.2.1, (z12.2.1.length : Int), (0 : Int), ())) fun y17 => out1 y17
            (fun z18 =>
              Option.bind (graph_Graph_Turn (x.1, ())) fun y19 =>
              Option.bind (lim scc_ordered_p0_l56_step ((List.replicate y1.1.toNat ((0 : Int) : Int), ([] : List (List Int)), ()), z18.1, x.2.1, (), z12.1, z18.2.1, y19)) fun y35 => out1 y35
                (fun z36 =>
                  some (.inl (z36.1, ()))))))
noncomputable def k36L : LCtr := ⟨[0, 1, 2], (.cons (.val (.ptr (.cons (.int .i64) (.cons (.lst t_easementref08_Pair) (.cons (.lst (.int .i32)) (.cons (.lst (.int .i32)) (.cons (.lst (.int .i32)) (.cons (.lst (.int .i32)) .nil)))))))) (.cons (.val (.lst (.lst (.int .i64)))) (.cons (.cst true) .nil))), [], [], [⟨.ret, [6], q41, [none, none, none]⟩], fun _ => [], scc_ordered_p0⟩
noncomputable def scc_ordered_p0_c : PI := mkPI Try.f40 k36L
theorem scc_ordered_p0_ok : PIOK Try.prog 40 scc_ordered_p0_c := proc_E k36 Try.func40 k36s (by kernel_rfl) (fun x => by kernel_rfl)
/-! ### easement/scc.Of: function 10, at objects -/
noncomputable def k37 : FE Try.prog := ⟨[(37, graph_Graph_Nodes_c)], [(38, [scc_finder_goes_p0_c]), (39, [tick_Counter_Add_p0_c]), (40, [scc_ordered_p0_c])], [(47, [1])], [], ⟨graph_Graph_Nodes_ok, trivial⟩, ⟨⟨scc_finder_goes_p0_ok, trivial⟩, ⟨tick_Counter_Add_p0_ok, trivial⟩, ⟨scc_ordered_p0_ok, trivial⟩, trivial⟩, trivial⟩
noncomputable def scc_Of_p0_j61_v (x : (V_scc_finder × Int × Bool × Unit)) : Option ((V_scc_finder × Unit) ⊕ Empty) :=
  cond (x.2.2.1)
    (Option.bind (scc_finder_goes_p0 (x.1, x.2.1, ())) fun y2 => out1 y2
      (fun z3 =>
        some (.inl z3)))
    (some (.inl (x.1, ())))
noncomputable def k37l1 : LCtr := ⟨[6, 7, 30], q42, [], [6, 19, 20], [⟨.normal, [6], (.cons (.ptr 0 q10) .nil), [some 0, some 1, some 2, none, some 4, none, none]⟩], fun _ => [], scc_Of_p0_j61_v⟩
noncomputable def scc_Of_p0_l8_step (g : (V_scc_finder × Int × Int × Unit) → Option ((V_scc_finder × Unit) ⊕ Empty)) (x : (V_scc_finder × Int × Int × Unit)) : Option ((V_scc_finder × Unit) ⊕ Empty) :=
  cond (decide (x.2.2.1 < x.2.1))
    (ck (inB x.2.2.1 (x.1.2.1.length)) <|
    Option.bind (scc_Of_p0_j61_v (x.1, x.2.2.1, (x.1.2.1.getD x.2.2.1.toNat (Ty.dflt (.int .i64))) == (0 : Int), ())) fun y4 => out1 y4
      (fun z5 =>
        g (z5.1, x.2.1, IntKind.i64.wrap (x.2.2.1 + (1 : Int)), ())))
    (some (.inl (x.1, ())))
noncomputable def k37l2 : LCtr := ⟨[6, 19, 20], q43, [some 0, some 1, some 2, none, some 4, none, none], [0, 1, 6], [⟨(.exit 0), [6], (.cons (.ptr 0 q10) .nil), [some 0, some 1, some 2, none, some 4, none, none]⟩], fun _ => [], lim scc_Of_p0_l8_step⟩
theorem k37s : LsOK Try.prog Try.f10.ntmps (codeOf Try.f10) [(8, k37l2), (917565, k37l1)] := loop_E 8 k37l2 k37 (join_E 917565 k37l1 k37 trivial (by kernel_rfl) (fun x => by kernel_rfl)) (by kernel_rfl) rfl (fun g x => by kernel_rfl)
noncomputable def scc_Of_p0 (x : ((Option V_graph_Graph) × Unit × Unit)) : Option ((V_scc_Parts × Unit) ⊕ Empty) :=
  Option.bind (graph_Graph_Nodes (x.1, ())) fun y1 =>
  ck (decide (0 ≤ y1.1) && decide (y1.1 ≤ y1.1) && decide (y1.1 * ((10 : Nat) : Int) ≤ 35184372088832)) <|
  ck (decide (0 ≤ y1.1) && decide (y1.1 ≤ y1.1) && decide (y1.1 * ((10 : Nat) : Int) ≤ 35184372088832)) <|
  ck (decide (0 ≤ y1.1) && decide (y1.1 ≤ y1.1) && decide (y1.1 * ((10 : Nat) : Int) ≤ 35184372088832)) <|
  Option.bind (lim scc_Of_p0_l8_step ((x.1, List.replicate y1.1.toNat ((0 : Int) : Int), List.replicate y1.1.toNat ((0 : Int) : Int), ([] : List Int), List.replicate y1.1.toNat ((0 : Int) : Int), ([] : List V_scc_call), ([] : List (List Int)), (0 : Int), ()), y1.1, (0 : Int), ())) fun y6 => out1 y6
    (fun z7 =>
      Option.bind (tick_Counter_Add_p0 ((), (4 : Int), z7.1.2.2.2.2.2.2.2)) fun y8 => out1 y8
        (fun z9 =>
          Option.bind (scc_ordered_p0 (x.1, z7.1.2.2.2.2.2.2.1, (), ())) fun y10 => out1 y10
            (fun z11 =>
              some (.inl z11))))
noncomputable def k37L : LCtr := ⟨[0, 1], (.cons (.val (.ptr (.cons (.int .i64) (.cons (.lst t_easementref08_Pair) (.cons (.lst (.int .i32)) (.cons (.lst (.int .i32)) (.cons (.lst (.int .i32)) (.cons (.lst (.int .i32)) .nil)))))))) (.cons (.cst true) .nil)), [], [], [⟨.ret, [4], q41, [none, none, none]⟩], fun _ => [], scc_Of_p0⟩
noncomputable def scc_Of_p0_c : PI := mkPI Try.f10 k37L
theorem scc_Of_p0_ok : PIOK Try.prog 10 scc_Of_p0_c := proc_E k37 Try.func10 k37s (by kernel_rfl) (fun x => by kernel_rfl)
/-! ### slices.Clone[[]int,int]: function 41 -/
noncomputable def slices_Clone_Lint_int (x : ((List Int) × Unit)) : Option ((List Int) × Unit) :=
  cond (x.1.isEmpty) (agree
    (some (([] : List Int), ()))
    (ck (roomB (([] : List Int) ++ x.1).length 10) <|
    some (([] : List Int) ++ x.1, ())))
    (ck (roomB (([] : List Int) ++ x.1).length 10) <|
    some (([] : List Int) ++ x.1, ()))
noncomputable def slices_Clone_Lint_int_c : Ctr := ⟨(.cons (.lst (.int .i64)) .nil), (.cons (.lst (.int .i64)) .nil), slices_Clone_Lint_int, none⟩
theorem slices_Clone_Lint_int_ok : CtrOK Try.prog 41 slices_Clone_Lint_int_c := fun_E (ls := []) k0 Try.func41 trivial (by kernel_rfl) (fun x => by kernel_rfl)
/-! ### easement/easementref01.Same: function 22 -/
noncomputable def ref01_Same_l8_step (g : ((List Int) × (List Int) × Int × Unit) → Option ((Bool × Unit) ⊕ (Unit ⊕ Empty))) (x : ((List Int) × (List Int) × Int × Unit)) : Option ((Bool × Unit) ⊕ (Unit ⊕ Empty)) :=
  cond (decide (x.2.2.1 < (x.1.length : Int)))
    (ck (inB x.2.2.1 (x.1.length)) <|
    ck (inB x.2.2.1 (x.2.1.length)) <|
    cond ((rdL (.int .i64) x.1 x.2.2.1) != (rdL (.int .i64) x.2.1 x.2.2.1))
      (some (.inl (false, ())))
      (g (x.1, x.2.1, IntKind.i64.wrap (x.2.2.1 + (1 : Int)), ())))
    (some (.inr (.inl ())))
noncomputable def k41l1 : LCtr := ⟨[0, 1, 5], (.cons (.val (.lst (.int .i64))) (.cons (.val (.lst (.int .i64))) (.cons (.val (.int .i64)) .nil))), [], [], [⟨.ret, [4], (.cons (.val .bool) .nil), []⟩, ⟨(.exit 0), [], .nil, []⟩], fun _ => [], lim ref01_Same_l8_step⟩
theorem k41s : LsOK Try.prog Try.f22.ntmps (codeOf Try.f22) [(8, k41l1)] := loop_E 8 k41l1 k0 trivial (by kernel_rfl) rfl (fun g x => by kernel_rfl)
noncomputable def ref01_Same (x : ((List Int) × (List Int) × Unit)) : Option (Bool × Unit) :=
  cond ((x.1.length : Int) != (x.2.1.length : Int))
    (some (false, ()))
    (Option.bind (lim ref01_Same_l8_step (x.1, x.2.1, (0 : Int), ())) fun y1 => out2 y1
      (fun z2 =>
        some z2)
      (fun z3 =>
        some (true, ())))
noncomputable def ref01_Same_c : Ctr := ⟨(.cons (.lst (.int .i64)) (.cons (.lst (.int .i64)) .nil)), (.cons .bool .nil), ref01_Same, none⟩
theorem ref01_Same_ok : CtrOK Try.prog 22 ref01_Same_c := fun_E k0 Try.func22 k41s (by kernel_rfl) (fun x => by kernel_rfl)
/-! ### (*easement/scc.Parts).Of: function 11, at objects -/
noncomputable def scc_Parts_Of_p0 (x : (V_scc_Parts × Int × Unit)) : Option ((Int × Bool × V_scc_Parts × Unit) ⊕ Empty) :=
  cond (cond (decide (x.2.1 < (0 : Int))) true (decide (x.2.1 ≥ (x.1.1.length : Int))))
    (some (.inl ((0 : Int), false, x.1, ())))
    (ck (inB x.2.1 (x.1.1.length)) <|
    some (.inl (x.1.1.getD x.2.1.toNat (Ty.dflt (.int .i64)), true, x.1, ())))
noncomputable def k43L : LCtr := ⟨[0, 1], q46, [], [], [⟨.ret, [4, 5, 0], (.cons (.val (.int .i64)) (.cons (.val .bool) (.cons (.ptr 0 (.cons (.own (.int .i64)) (.cons (.own (.lst (.int .i64))) .nil))) .nil))), [some 0, some 1, some 2]⟩], fun _ => [], scc_Parts_Of_p0⟩
noncomputable def scc_Parts_Of_p0_c : PI := mkPI Try.f11 k43L
theorem scc_Parts_Of_p0_ok : PIOK Try.prog 11 scc_Parts_Of_p0_c := proc_E (ls := []) k0 Try.func11 trivial (by kernel_rfl) (fun x => by kernel_rfl)
/-! ### (*easement/scc.Parts).Len: function 12, at objects -/
noncomputable def scc_Parts_Len_p0 (x : (V_scc_Parts × Unit)) : Option ((Int × V_scc_Parts × Unit) ⊕ Empty) :=
  some (.inl ((x.1.2.1.length : Int), x))
noncomputable def k44L : LCtr := ⟨[0], q41, [], [], [⟨.ret, [2, 0], q48, [some 0, some 1, some 2]⟩], fun _ => [], scc_Parts_Len_p0⟩
noncomputable def scc_Parts_Len_p0_c : PI := mkPI Try.f12 k44L
theorem scc_Parts_Len_p0_ok : PIOK Try.prog 12 scc_Parts_Len_p0_c := proc_E (ls := []) k0 Try.func12 trivial (by kernel_rfl) (fun x => by kernel_rfl)
/-! ### (*easement/scc.Parts).Members: function 13, at objects -/
/-! ### easement/easementref10.Reach: function 42 -/
noncomputable def ref10_Reach_j83_v (x : ((List V_easementref08_Pair) × (List Int) × Bool × Int × Bool × Unit)) : Option ((Bool × (List Int) × Unit) ⊕ Empty) :=
  cond (x.2.2.2.2.1)
    (ck (inB x.2.2.2.1 (x.1.length)) <|
    let v1 := (rdL t_easementref08_Pair x.1 x.2.2.2.1).2.1
    ck (inB v1 (x.2.1.length)) <|
    some (.inl (true, x.2.1.set v1.toNat (1 : Int), ())))
    (some (.inl (x.2.2.1, x.2.1, ())))
noncomputable def k48l1 : LCtr := ⟨[1, 7, 8, 9, 41], (.cons (.val (.lst t_easementref08_Pair)) (.cons (.own (.int .i64)) (.cons (.val .bool) (.cons (.val (.int .i64)) (.cons (.val .bool) .nil))))), [], [1, 7, 9], [⟨.normal, [8, 7], (.cons (.val .bool) (.cons (.own (.int .i64)) .nil)), [some 0]⟩], fun _ => [], ref10_Reach_j83_v⟩
noncomputable def ref10_Reach_l14_step (g : T15 → Option ((Bool × (List Int) × Unit) ⊕ Empty)) (x : T15) : Option ((Bool × (List Int) × Unit) ⊕ Empty) :=
  cond (decide (x.2.2.2.1 < (x.1.length : Int)))
    (ck (inB x.2.2.2.1 (x.1.length)) <|
    let v1 := (rdL t_easementref08_Pair x.1 x.2.2.2.1).1
    ck (inB v1 (x.2.1.length)) <|
    let v2 := (x.2.1.getD v1.toNat (Ty.dflt (.int .i64))) == (1 : Int)
    ck ((inB x.2.2.2.1 (x.1.length)) || !v2) <|
    let v3 := (rdL t_easementref08_Pair x.1 x.2.2.2.1).2.1
    ck ((inB v3 (x.2.1.length)) || !v2) <|
    Option.bind (ref10_Reach_j83_v (x.1, x.2.1, x.2.2.1, x.2.2.2.1, cond v2 ((x.2.1.getD v3.toNat (Ty.dflt (.int .i64))) == (0 : Int)) false, ())) fun y1 => out1 y1
      (fun z2 =>
        g (x.1, z2.2.1, z2.1, IntKind.i64.wrap (x.2.2.2.1 + (1 : Int)), ())))
    (some (.inl (x.2.2.1, x.2.1, ())))
noncomputable def k48l2 : LCtr := ⟨[1, 7, 8, 9], (.cons (.val (.lst t_easementref08_Pair)) (.cons (.own (.int .i64)) (.cons (.val .bool) (.cons (.val (.int .i64)) .nil)))), [some 0], [1, 7], [⟨(.exit 2), [8, 7], (.cons (.val .bool) (.cons (.own (.int .i64)) .nil)), [some 0]⟩], fun _ => [], lim ref10_Reach_l14_step⟩
noncomputable def ref10_Reach_l8_step (g : ((List V_easementref08_Pair) × (List Int) × Bool × Unit) → Option (V_point_Points ⊕ Empty)) (x : ((List V_easementref08_Pair) × (List Int) × Bool × Unit)) : Option (V_point_Points ⊕ Empty) :=
  cond (x.2.2.1)
    (Option.bind (lim ref10_Reach_l14_step (x.1, x.2.1, false, (0 : Int), ())) fun y3 => out1 y3
      (fun z4 =>
        g (x.1, z4.2.1, z4.1, ())))
    (some (.inl (x.2.1, ())))
noncomputable def k48l3 : LCtr := ⟨[1, 7, 8], (.cons (.val (.lst t_easementref08_Pair)) (.cons (.own (.int .i64)) (.cons (.val .bool) .nil))), [some 0], [7], [⟨(.exit 0), [7], (.cons (.own (.int .i64)) .nil), [some 0]⟩], fun _ => [], lim ref10_Reach_l8_step⟩
theorem k48s : LsOK Try.prog Try.f42.ntmps (codeOf Try.f42) [(8, k48l3), (14, k48l2), (1310803, k48l1)] := loop_E 8 k48l3 k0 (loop_E 14 k48l2 k0 (join_E 1310803 k48l1 k0 trivial (by kernel_rfl) (fun x => by kernel_rfl)) (by kernel_rfl) rfl (fun g x => by kernel_rfl)) (by kernel_rfl) rfl (fun g x => by kernel_rfl)
noncomputable def ref10_Reach (x : (Int × (List V_easementref08_Pair) × Int × Unit)) : Option ((List Int) × Unit) :=
  ck (decide (0 ≤ x.1) && decide (x.1 ≤ x.1) && decide (x.1 * ((10 : Nat) : Int) ≤ 35184372088832)) <|
  let v1 := List.replicate x.1.toNat ((0 : Int) : Int)
  ck (inB x.2.2.1 (v1.length)) <|
  Option.bind (lim ref10_Reach_l8_step (x.2.1, v1.set x.2.2.1.toNat (1 : Int), true, ())) fun y5 => out1 y5
    (fun z6 =>
      some z6)
noncomputable def ref10_Reach_c : Ctr := ⟨(.cons (.int .i64) (.cons (.lst t_easementref08_Pair) (.cons (.int .i64) .nil))), (.cons (.lst (.int .i64)) .nil), ref10_Reach, none⟩
theorem ref10_Reach_ok : CtrOK Try.prog 42 ref10_Reach_c := fun_E k0 Try.func42 k48s (by kernel_rfl) (fun x => by kernel_rfl)
/-! ### easement/easementlaw11.SccOrder: function 3 -/
/-! ### (*easement/scc.Parts).Alike: function 14 -/
/-! ### (*easement/tick.Counter).Add: function 39, at objects -/
/-! ### easement/scc.Of: function 10, at objects -/
/-! ### easement/easementref11.ready: function 43 -/
noncomputable def ref11_ready_l4_step (g : T32 → Option ((Bool × Unit) ⊕ (Unit ⊕ Empty))) (x : T32) : Option ((Bool × Unit) ⊕ (Unit ⊕ Empty)) :=
  cond (decide (x.2.2.2.2.1 < (x.2.1.length : Int)))
    (ck (inB x.2.2.2.2.1 (x.2.1.length)) <|
    ck (inB x.2.2.2.2.1 (x.2.1.length)) <|
    ck (inB x.2.2.2.1 (x.1.length)) <|
    let v1 := (rdL t_easementref08_Pair x.2.1 x.2.2.2.2.1).1
    let v2 := rdL (.lst (.int .i64)) x.1 x.2.2.2.1
    ck (inB v1 (v2.length)) <|
    let v3 := (rdL (.int .i64) v2 v1) == (1 : Int)
    ck ((inB x.2.2.2.1 (x.1.length)) || !v3) <|
    let v4 := (rdL t_easementref08_Pair x.2.1 x.2.2.2.2.1).2.1
    let v5 := rdL (.lst (.int .i64)) x.1 x.2.2.2.1
    ck ((inB v4 (v5.length)) || !v3) <|
    let v6 := cond v3 ((rdL (.int .i64) v5 v4) == (0 : Int)) false
    ck ((inB v4 (x.2.2.1.length)) || !v6) <|
    cond (cond v6 (decide ((rdL (.int .i64) x.2.2.1 v4) < (0 : Int))) false)
      (some (.inl (false, ())))
      (g (x.1, x.2.1, x.2.2.1, x.2.2.2.1, IntKind.i64.wrap (x.2.2.2.2.1 + (1 : Int)), ())))
    (some (.inr (.inl ())))
noncomputable def k57l1 : LCtr := ⟨[0, 1, 2, 3, 9], (.cons (.val (.lst (.lst (.int .i64)))) (.cons (.val (.lst t_easementref08_Pair)) (.cons (.val (.lst (.int .i64))) (.cons (.val (.int .i64)) (.cons (.val (.int .i64)) .nil))))), [], [], [⟨.ret, [8], (.cons (.val .bool) .nil), []⟩, ⟨(.exit 0), [], .nil, []⟩], fun _ => [], lim ref11_ready_l4_step⟩
theorem k57s : LsOK Try.prog Try.f43.ntmps (codeOf Try.f43) [(4, k57l1)] := loop_E 4 k57l1 k0 trivial (by kernel_rfl) rfl (fun g x => by kernel_rfl)
noncomputable def ref11_ready (x : ((List (List Int)) × (List V_easementref08_Pair) × (List Int) × Int × Unit)) : Option (Bool × Unit) :=
  Option.bind (lim ref11_ready_l4_step (x.1, x.2.1, x.2.2.1, x.2.2.2.1, (0 : Int), ())) fun y1 => out2 y1
    (fun z2 =>
      some z2)
    (fun z3 =>
      some (true, ()))
noncomputable def ref11_ready_c : Ctr := ⟨(.cons (.lst (.lst (.int .i64))) (.cons (.lst t_easementref08_Pair) (.cons (.lst (.int .i64)) (.cons (.int .i64) .nil)))), (.cons .bool .nil), ref11_ready, none⟩
theorem ref11_ready_ok : CtrOK Try.prog 43 ref11_ready_c := fun_E k0 Try.func43 k57s (by kernel_rfl) (fun x => by kernel_rfl)
/-! ### easement/easementref11.Of: function 17 -/
noncomputable def k58 : FE Try.prog := ⟨[(42, ref10_Reach_c), (43, ref11_ready_c)], [], [], [], ⟨ref10_Reach_ok, ref11_ready_ok, trivial⟩, trivial, trivial⟩
noncomputable def ref11_Of_l10_step (g : T34 → Option (V_scc_least ⊕ Empty)) (x : T34) : Option (V_scc_least ⊕ Empty) :=
  cond (decide (x.2.2.2.2.1 < x.1))
    (Option.bind (ref10_Reach (x.1, x.2.1, x.2.2.2.2)) fun y1 =>
    ck (roomB (x.2.2.1 ++ [y1.1]).length 26) <|
    let v1 := x.2.2.2.1 ++ [(-1 : Int)]
    ck (roomB v1.length 10) <|
    g (x.1, x.2.1, x.2.2.1 ++ [y1.1], v1, IntKind.i64.wrap (x.2.2.2.2.1 + (1 : Int)), ()))
    (some (.inl (x.2.2.1, x.2.2.2.1, ())))
noncomputable def k58l1 : LCtr := ⟨[0, 1, 6, 7, 8], (.cons (.val (.int .i64)) (.cons (.val (.lst t_easementref08_Pair)) (.cons (.own (.lst (.int .i64))) (.cons (.own (.int .i64)) (.cons (.val (.int .i64)) .nil))))), [none, none], [0, 1, 5], [⟨(.exit 0), [6, 7], (.cons (.own (.lst (.int .i64))) (.cons (.own (.int .i64)) .nil)), [none, none]⟩], fun _ => [], lim ref11_Of_l10_step⟩
noncomputable def ref11_Of_l28_step (g : (Int × (List (List Int)) × Int × (List Int) × Int × Unit) → Option (V_scc_Parts ⊕ Empty)) (x : (Int × (List (List Int)) × Int × (List Int) × Int × Unit)) : Option (V_scc_Parts ⊕ Empty) :=
  cond (decide (x.2.2.2.2.1 < x.1))
    (ck (inB x.2.2.1 (x.2.1.length)) <|
    let v1 := x.2.1.getD x.2.2.1.toNat (Ty.dflt (.lst (.int .i64)))
    ck (inB x.2.2.2.2.1 (v1.length)) <|
    ck (inB x.2.2.2.2.1 (x.2.1.length)) <|
    let v2 := x.2.1.getD x.2.2.2.2.1.toNat (Ty.dflt (.lst (.int .i64)))
    ck (inB x.2.2.1 (v2.length)) <|
    let v3 := x.2.2.2.1 ++ [IntKind.i64.wrap ((rdL (.int .i64) v1 x.2.2.2.2.1) * (rdL (.int .i64) v2 x.2.2.1))]
    ck (roomB v3.length 10) <|
    g (x.1, x.2.1, x.2.2.1, v3, IntKind.i64.wrap (x.2.2.2.2.1 + (1 : Int)), ()))
    (some (.inl (x.2.2.2.1, x.2.1, ())))
noncomputable def k58l2 : LCtr := ⟨[0, 6, 9, 10, 11], (.cons (.val (.int .i64)) (.cons (.own (.lst (.int .i64))) (.cons (.val (.int .i64)) (.cons (.own (.int .i64)) (.cons (.val (.int .i64)) .nil))))), [some 0, none], [0, 5, 6, 9], [⟨(.exit 4), [10, 6], (.cons (.own (.int .i64)) (.cons (.own (.lst (.int .i64))) .nil)), [none, some 0]⟩], fun _ => [], lim ref11_Of_l28_step⟩
noncomputable def ref11_Of_l20_step (g : (Int × (List (List Int)) × (List (List Int)) × Int × Unit) → Option (((List (List Int)) × (List (List Int)) × Unit) ⊕ Empty)) (x : (Int × (List (List Int)) × (List (List Int)) × Int × Unit)) : Option (((List (List Int)) × (List (List Int)) × Unit) ⊕ Empty) :=
  cond (decide (x.2.2.2.1 < x.1))
    (Option.bind (lim ref11_Of_l28_step (x.1, x.2.2.1, x.2.2.2.1, ([] : List Int), (0 : Int), ())) fun y4 => out1 y4
      (fun z5 =>
        ck (roomB (x.2.1 ++ [z5.1]).length 26) <|
        g (x.1, x.2.1 ++ [z5.1], z5.2.1, IntKind.i64.wrap (x.2.2.2.1 + (1 : Int)), ())))
    (some (.inl (x.2.1, x.2.2.1, ())))
noncomputable def k58l3 : LCtr := ⟨[0, 5, 6, 9], (.cons (.val (.int .i64)) (.cons (.own (.lst (.int .i64))) (.cons (.own (.lst (.int .i64))) (.cons (.val (.int .i64)) .nil)))), [none, some 1], [0, 1, 7], [⟨(.exit 2), [5, 6], (.cons (.own (.lst (.int .i64))) (.cons (.own (.lst (.int .i64))) .nil)), [none, some 1]⟩], fun _ => [], lim ref11_Of_l20_step⟩
noncomputable def ref11_Of_j205_v (x : ((List Int) × Int × Int × Bool × Unit)) : Option (V_point_Points ⊕ Empty) :=
  cond (x.2.2.2.1)
    (ck (inB x.2.2.1 (x.1.length)) <|
    some (.inl (x.1.set x.2.2.1.toNat x.2.1, ())))
    (some (.inl (x.1, ())))
noncomputable def k58l4 : LCtr := ⟨[7, 12, 15, 102], (.cons (.own (.int .i64)) (.cons (.val (.int .i64)) (.cons (.val (.int .i64)) (.cons (.val .bool) .nil)))), [], [0, 5, 7, 12, 14, 15], [⟨.normal, [7], (.cons (.own (.int .i64)) .nil), [some 0]⟩], fun _ => [], ref11_Of_j205_v⟩
noncomputable def ref11_Of_l54_step (g : T35 → Option (V_scc_least ⊕ Empty)) (x : T35) : Option (V_scc_least ⊕ Empty) :=
  cond (decide (x.2.2.2.2.2.1 < x.1))
    (ck (inB x.2.2.2.2.1 (x.2.1.length)) <|
    let v1 := x.2.1.getD x.2.2.2.2.1.toNat (Ty.dflt (.lst (.int .i64)))
    ck (inB x.2.2.2.2.2.1 (v1.length)) <|
    Option.bind (ref11_Of_j205_v (x.2.2.1, x.2.2.2.1, x.2.2.2.2.2.1, (rdL (.int .i64) v1 x.2.2.2.2.2.1) == (1 : Int), ())) fun y9 => out1 y9
      (fun z10 =>
        g (x.1, x.2.1, z10.1, x.2.2.2.1, x.2.2.2.2.1, IntKind.i64.wrap (x.2.2.2.2.2.1 + (1 : Int)), ())))
    (some (.inl (x.2.1, x.2.2.1, ())))
noncomputable def k58l5 : LCtr := ⟨[0, 5, 7, 12, 14, 15], (.cons (.val (.int .i64)) (.cons (.own (.lst (.int .i64))) (.cons (.own (.int .i64)) (.cons (.val (.int .i64)) (.cons (.val (.int .i64)) (.cons (.val (.int .i64)) .nil)))))), [some 0, some 1], [0, 1, 5, 7, 12, 14], [⟨(.exit 10), [5, 7], (.cons (.own (.lst (.int .i64))) (.cons (.own (.int .i64)) .nil)), [some 0, some 1]⟩], fun _ => [], lim ref11_Of_l54_step⟩
noncomputable def ref11_Of_l46_step (g : T36 → Option T37) (x : T36) : Option T37 :=
  cond (cond (decide (x.2.2.2.2.2.2.1 < x.1)) (!x.2.2.2.2.2.1) false)
    (ck (inB x.2.2.2.2.2.2.1 (x.2.2.2.1.length)) <|
    cond (!(decide ((x.2.2.2.1.getD x.2.2.2.2.2.2.1.toNat (Ty.dflt (.int .i64))) ≥ (0 : Int))))
      (Option.bind (ref11_ready (x.2.2.1, x.2.1, x.2.2.2.1, x.2.2.2.2.2.2)) fun y8 =>
      cond (!y8.1)
        (g (x.1, x.2.1, x.2.2.1, x.2.2.2.1, x.2.2.2.2.1, x.2.2.2.2.2.1, IntKind.i64.wrap (x.2.2.2.2.2.2.1 + (1 : Int)), ()))
        (Option.bind (lim ref11_Of_l54_step (x.1, x.2.2.1, x.2.2.2.1, x.2.2.2.2.1, x.2.2.2.2.2.2.1, (0 : Int), ())) fun y11 => out1 y11
          (fun z12 =>
            g (x.1, x.2.1, z12.1, z12.2.1, IntKind.i64.wrap (x.2.2.2.2.1 + (1 : Int)), true, IntKind.i64.wrap (x.2.2.2.2.2.2.1 + (1 : Int)), ()))))
      (g (x.1, x.2.1, x.2.2.1, x.2.2.2.1, x.2.2.2.2.1, x.2.2.2.2.2.1, IntKind.i64.wrap (x.2.2.2.2.2.2.1 + (1 : Int)), ())))
    (some (.inl (x.2.2.2.2.1, x.2.2.2.2.2.1, x.2.2.1, x.2.2.2.1, ())))
noncomputable def k58l6 : LCtr := ⟨[0, 1, 5, 7, 12, 13, 14], (.cons (.val (.int .i64)) (.cons (.val (.lst t_easementref08_Pair)) (.cons (.own (.lst (.int .i64))) (.cons (.own (.int .i64)) (.cons (.val (.int .i64)) (.cons (.val .bool) (.cons (.val (.int .i64)) .nil))))))), [some 0, some 1], [0, 1, 5, 7], [⟨(.exit 8), [12, 13, 5, 7], (.cons (.val (.int .i64)) (.cons (.val .bool) (.cons (.own (.lst (.int .i64))) (.cons (.own (.int .i64)) .nil)))), [some 0, some 1]⟩], fun _ => [], lim ref11_Of_l46_step⟩
noncomputable def ref11_Of_l40_step (g : T38 → Option (V_scc_least ⊕ Empty)) (x : T38) : Option (V_scc_least ⊕ Empty) :=
  cond (x.2.2.2.2.2.1)
    (Option.bind (lim ref11_Of_l46_step (x.1, x.2.1, x.2.2.1, x.2.2.2.1, x.2.2.2.2.1, false, (0 : Int), ())) fun y13 => out1 y13
      (fun z14 =>
        g (x.1, x.2.1, z14.2.2.1, z14.2.2.2.1, z14.1, z14.2.1, ())))
    (some (.inl (x.2.2.1, x.2.2.2.1, ())))
noncomputable def k58l7 : LCtr := ⟨[0, 1, 5, 7, 12, 13], (.cons (.val (.int .i64)) (.cons (.val (.lst t_easementref08_Pair)) (.cons (.own (.lst (.int .i64))) (.cons (.own (.int .i64)) (.cons (.val (.int .i64)) (.cons (.val .bool) .nil)))))), [some 0, some 1], [7], [⟨(.exit 6), [5, 7], (.cons (.own (.lst (.int .i64))) (.cons (.own (.int .i64)) .nil)), [some 0, some 1]⟩], fun _ => [], lim ref11_Of_l40_step⟩
theorem k58s : LsOK Try.prog Try.f17.ntmps (codeOf Try.f17) [(40, k58l7), (46, k58l6), (54, k58l5), (3932365, k58l4), (20, k58l3), (28, k58l2), (10, k58l1)] := loop_E 40 k58l7 k58 (loop_E 46 k58l6 k58 (loop_E 54 k58l5 k58 (join_E 3932365 k58l4 k58 (loop_E 20 k58l3 k58 (loop_E 28 k58l2 k58 (loop_E 10 k58l1 k58 trivial (by kernel_rfl) rfl (fun g x => by kernel_rfl)) (by kernel_rfl) rfl (fun g x => by kernel_rfl)) (by kernel_rfl) rfl (fun g x => by kernel_rfl)) (by kernel_rfl) (fun x => by kernel_rfl)) (by kernel_rfl) rfl (fun g x => by kernel_rfl)) (by kernel_rfl) rfl (fun g x => by kernel_rfl)) (by kernel_rfl) rfl (fun g x => by kernel_rfl)
noncomputable def ref11_Of (x : (Int × (List V_easementref08_Pair) × Unit)) : Option ((List Int) × Unit) :=
  Option.bind (lim ref11_Of_l10_step (x.1, x.2.1, ([] : List (List Int)), ([] : List Int), (0 : Int), ())) fun y2 => out1 y2
    (fun z3 =>
      Option.bind (lim ref11_Of_l20_step (x.1, ([] : List (List Int)), z3.1, (0 : Int), ())) fun y6 => out1 y6
        (fun z7 =>
          Option.bind (lim ref11_Of_l40_step (x.1, x.2.1, z7.1, z3.2.1, (0 : Int), true, ())) fun y15 => out1 y15
            (fun z16 =>
              some z16.2)))
noncomputable def ref11_Of_c : Ctr := ⟨(.cons (.int .i64) (.cons (.lst t_easementref08_Pair) .nil)), (.cons (.lst (.int .i64)) .nil), ref11_Of, none⟩
theorem ref11_Of_ok : CtrOK Try.prog 17 ref11_Of_c := fun_E k58 Try.func17 k58s (by kernel_rfl) (fun x => by kernel_rfl)
/-! ### easement/easementref11.Count: function 18 -/
noncomputable def ref11_Count_j35_v (x : ((List Int) × Int × Int × Bool × Unit)) : Option ((Int × Unit) ⊕ Empty) :=
  cond (x.2.2.2.1)
    (ck (inB x.2.2.1 (x.1.length)) <|
    some (.inl (IntKind.i64.wrap ((rdL (.int .i64) x.1 x.2.2.1) + (1 : Int)), ())))
    (some (.inl (x.2.1, ())))
noncomputable def k59l1 : LCtr := ⟨[0, 3, 4, 17], (.cons (.val (.lst (.int .i64))) (.cons (.val (.int .i64)) (.cons (.val (.int .i64)) (.cons (.val .bool) .nil)))), [], [0, 4], [⟨.normal, [3], (.cons (.val (.int .i64)) .nil), []⟩], fun _ => [], ref11_Count_j35_v⟩
noncomputable def ref11_Count_l6_step (g : ((List Int) × Int × Int × Unit) → Option ((Int × Unit) ⊕ Empty)) (x : ((List Int) × Int × Int × Unit)) : Option ((Int × Unit) ⊕ Empty) :=
  cond (decide (x.2.2.1 < (x.1.length : Int)))
    (ck (inB x.2.2.1 (x.1.length)) <|
    Option.bind (ref11_Count_j35_v (x.1, x.2.1, x.2.2.1, decide ((IntKind.i64.wrap ((rdL (.int .i64) x.1 x.2.2.1) + (1 : Int))) > x.2.1), ())) fun y1 => out1 y1
      (fun z2 =>
        g (x.1, z2.1, IntKind.i64.wrap (x.2.2.1 + (1 : Int)), ())))
    (some (.inl (x.2.1, ())))
noncomputable def k59l2 : LCtr := ⟨[0, 3, 4], (.cons (.val (.lst (.int .i64))) (.cons (.val (.int .i64)) (.cons (.val (.int .i64)) .nil))), [], [], [⟨(.exit 0), [3], (.cons (.val (.int .i64)) .nil), []⟩], fun _ => [], lim ref11_Count_l6_step⟩
theorem k59s : LsOK Try.prog Try.f18.ntmps (codeOf Try.f18) [(6, k59l2), (786467, k59l1)] := loop_E 6 k59l2 k0 (join_E 786467 k59l1 k0 trivial (by kernel_rfl) (fun x => by kernel_rfl)) (by kernel_rfl) rfl (fun g x => by kernel_rfl)
noncomputable def ref11_Count (x : ((List Int) × Unit)) : Option (Int × Unit) :=
  Option.bind (lim ref11_Count_l6_step (x.1, (0 : Int), (0 : Int), ())) fun y3 => out1 y3
    (fun z4 =>
      some z4)
noncomputable def ref11_Count_c : Ctr := ⟨(.cons (.lst (.int .i64)) .nil), (.cons (.int .i64) .nil), ref11_Count, none⟩
theorem ref11_Count_ok : CtrOK Try.prog 18 ref11_Count_c := fun_E k0 Try.func18 k59s (by kernel_rfl) (fun x => by kernel_rfl)
/-! ### easement/tick.plus: function 44 -/
/-! ### easement/easementref11.Members: function 21 -/
/-! ### easement/cond.New: function 24, at objects -/
noncomputable def k65 : FE Try.prog := ⟨[(45, graph_Graph_Arcs_c), (46, graph_Graph_Arc_c)], [(12, [scc_Parts_Len_p0_c]), (11, [scc_Parts_Of_p0_c])], [(2000020, [1]), (2000022, [1]), (3000009, [57]), (3000010, [73]), (3000018, [111]), (3000019, [125]), (3000025, [6])], [(47, 3)], ⟨graph_Graph_Arcs_ok, graph_Graph_Arc_ok, trivial⟩, ⟨⟨scc_Parts_Len_p0_ok, trivial⟩, ⟨scc_Parts_Of_p0_ok, trivial⟩, trivial⟩, ⟨S47_ok, trivial⟩⟩
noncomputable def cond_New_p0_j187_v (x : (V_cond_Cond × Int × Int × Bool × Unit)) : Option ((V_cond_Cond × Unit) ⊕ Empty) :=
  cond (x.2.2.2.1)
    (ck (inB x.2.1 (x.1.2.2.2.1.length)) <|
    some (.inl ((x.1.1, x.1.2.1, x.1.2.2.1, x.1.2.2.2.1.set x.2.1.toNat true, ()), ())))
    (ck (inB x.2.1 (x.1.1.length)) <|
    let v1 := (x.1.1.getD x.2.1.toNat ([] : List Int)) ++ [x.2.2.1]
    ck (roomB v1.length 10) <|
    ck (inB x.2.1 (x.1.1.length)) <|
    ck (Nat.beq x.2.1.toNat x.2.1.toNat) <|
    ck (inB x.2.2.1 (x.1.2.1.length)) <|
    let v2 := (x.1.2.1.getD x.2.2.1.toNat ([] : List Int)) ++ [x.2.1]
    ck (roomB v2.length 10) <|
    ck (inB x.2.2.1 (x.1.2.1.length)) <|
    ck (Nat.beq x.2.2.1.toNat x.2.2.1.toNat) <|
    some (.inl ((x.1.1.set x.2.1.toNat v1, x.1.2.1.set x.2.2.1.toNat v2, x.1.2.2), ())))
noncomputable def k65l1 : LCtr := ⟨[6, 10, 12, 93], q92, [], [6], [⟨.normal, [6], (.cons (.ptr 0 q91) .nil), [some 0, some 1, some 2, some 3, some 4]⟩], fun _ => [], cond_New_p0_j187_v⟩
noncomputable def cond_New_p0_j173_v (x : (V_cond_Cond × Int × Int × Bool × Unit)) : Option ((V_cond_Cond × Unit) ⊕ Empty) :=
  cond (x.2.2.2.1)
    (some (.inl (x.1, ())))
    (Option.bind (cond_New_p0_j187_v (x.1, x.2.1, x.2.2.1, x.2.1 == x.2.2.1, ())) fun y9 => out1 y9
      (fun z10 =>
        some (.inl z10)))
noncomputable def k65l2 : LCtr := ⟨[6, 10, 12, 86], q92, [], [0, 1, 6, 30, 31], [⟨.normal, [6], (.cons (.ptr 0 q91) .nil), [some 0, some 1, some 2, some 3, some 4]⟩], fun _ => [], cond_New_p0_j173_v⟩
noncomputable def cond_New_p0_l8_step (g : T40 → Option ((V_scc_Parts × V_cond_Cond × Unit) ⊕ Empty)) (x : T40) : Option ((V_scc_Parts × V_cond_Cond × Unit) ⊕ Empty) :=
  cond (decide (x.2.2.2.2.1 < x.2.2.2.1))
    (Option.bind (graph_Graph_Arc (x.2.2.1, x.2.2.2.2)) fun y4 =>
    Option.bind (scc_Parts_Of_p0 (x.1, y4.1.1, ())) fun y5 => out1 y5
      (fun z6 =>
        Option.bind (scc_Parts_Of_p0 (z6.2.2.1, y4.1.2)) fun y7 => out1 y7
          (fun z8 =>
            Option.bind (cond_New_p0_j173_v (x.2.1, z6.1, z8.1, cond (!z6.2.1) true (!z8.2.1), ())) fun y11 => out1 y11
              (fun z12 =>
                g (z8.2.2.1, z12.1, x.2.2.1, x.2.2.2.1, IntKind.i64.wrap (x.2.2.2.2.1 + (1 : Int)), ())))))
    (some (.inl (x.1, x.2.1, ())))
noncomputable def k65l3 : LCtr := ⟨[1, 6, 0, 30, 31], (.cons (.ptr 0 (.cons (.own (.int .i64)) (.cons (.own (.lst (.int .i64))) .nil))) (.cons (.ptr 0 q91) (.cons (.val (.ptr (.cons (.int .i64) (.cons (.lst t_easementref08_Pair) (.cons (.lst (.int .i32)) (.cons (.lst (.int .i32)) (.cons (.lst (.int .i32)) (.cons (.lst (.int .i32)) .nil)))))))) (.cons (.val (.int .i64)) (.cons (.val (.int .i64)) .nil))))), [some 0, some 1, some 2, some 3, some 4, some 5, some 6, some 7], [0, 1, 5, 6], [⟨(.exit 0), [1, 6], (.cons (.ptr 0 (.cons (.own (.int .i64)) (.cons (.own (.lst (.int .i64))) .nil))) (.cons (.ptr 0 q91) .nil)), [some 0, some 1, some 2, some 3, some 4, some 5, some 6, some 7]⟩], fun _ => [], lim cond_New_p0_l8_step⟩
noncomputable def cond_New_p0_l42_step (g : T41 → Option T42) (x : T41) : Option T42 :=
  cond (decide (x.2.2.2.2.1 < x.2.2.2.1))
    (ck (inB x.2.2.2.2.1 (x.2.2.1.length)) <|
    ck (inB x.2.1 (x.1.2.2.1.length)) <|
    let v1 := x.2.2.1.getD x.2.2.2.2.1.toNat (Ty.dflt (.int .i64))
    ck (inB v1 (x.1.2.2.1.length)) <|
    ck (inB x.2.1 (x.1.2.2.1.length)) <|
    g ((x.1.1, x.1.2.1, x.1.2.2.1.set x.2.1.toNat (maxI (x.1.2.2.1.getD x.2.1.toNat (Ty.dflt (.int .i64))) (IntKind.i64.wrap ((x.1.2.2.1.getD v1.toNat (Ty.dflt (.int .i64))) + (1 : Int)))), x.1.2.2.2), x.2.1, x.2.2.1, x.2.2.2.1, IntKind.i64.wrap (x.2.2.2.2.1 + (1 : Int)), ()))
    (some (.inl (x.1, x.2.2.1, ())))
noncomputable def k65l4 : LCtr := ⟨[6, 14, 142, 143, 144], (.cons (.ptr 0 q95) (.cons (.val (.int .i64)) (.cons (.own (.int .i64)) (.cons (.val (.int .i64)) (.cons (.val (.int .i64)) .nil))))), [some 0, some 1, some 2, some 3, some 4, some 5], [6, 104, 105], [⟨(.exit 5), [6, 142], (.cons (.ptr 0 q95) (.cons (.own (.int .i64)) .nil)), [some 0, some 1, some 2, some 3, some 4, some 5]⟩], fun _ => [], lim cond_New_p0_l42_step⟩
noncomputable def cond_New_p0_l32_step (g : (V_cond_Cond × Int × Int × Unit) → Option ((V_cond_Cond × Unit) ⊕ Empty)) (x : (V_cond_Cond × Int × Int × Unit)) : Option ((V_cond_Cond × Unit) ⊕ Empty) :=
  cond (decide (x.2.2.1 < x.2.1))
    (ck (inB x.2.2.1 (x.1.1.length)) <|
    ck (inB x.2.2.1 (x.1.1.length)) <|
    ck (Nat.beq x.2.2.1.toNat x.2.2.1.toNat) <|
    ck (inB x.2.2.1 (x.1.2.1.length)) <|
    ck (inB x.2.2.1 (x.1.2.1.length)) <|
    ck (Nat.beq x.2.2.1.toNat x.2.2.1.toNat) <|
    let v1 := x.1.1.set x.2.2.1.toNat (cpt (srt (x.1.1.getD x.2.2.1.toNat ([] : List Int))))
    ck (inB x.2.2.1 (v1.length)) <|
    let v2 := v1.getD x.2.2.1.toNat ([] : List Int)
    Option.bind (lim cond_New_p0_l42_step (((v1, x.2.2.1.toNat), x.1.2.1.set x.2.2.1.toNat (cpt (srt (x.1.2.1.getD x.2.2.1.toNat ([] : List Int)))), x.1.2.2), x.2.2.1, v2, (v2.length : Int), (0 : Int), ())) fun y15 => out1 y15
      (fun z16 =>
        g ((z16.1.1.1.set z16.1.1.2 z16.2.1, z16.1.2), x.2.1, IntKind.i64.wrap (x.2.2.1 + (1 : Int)), ())))
    (some (.inl (x.1, ())))
noncomputable def k65l5 : LCtr := ⟨[6, 104, 105], (.cons (.ptr 0 q91) (.cons (.val (.int .i64)) (.cons (.val (.int .i64)) .nil))), [some 0, some 1, some 2, some 3, some 4], [0, 1, 6], [⟨(.exit 3), [6], (.cons (.ptr 0 q91) .nil), [some 0, some 1, some 2, some 3, some 4]⟩], fun _ => [], lim cond_New_p0_l32_step⟩
theorem k65s : LsOK Try.prog Try.f24.ntmps (codeOf Try.f24) [(32, k65l5), (42, k65l4), (8, k65l3), (103079215277, k65l2), (77311115451, k65l1)] := loop_E 32 k65l5 k65 (loop_E 42 k65l4 k65 (loop_E 8 k65l3 k65 (join_E 103079215277 k65l2 k65 (join_E 77311115451 k65l1 k65 trivial (by kernel_rfl) (fun x => by kernel_rfl)) (by kernel_rfl) (fun x => by kernel_rfl)) (by kernel_rfl) rfl (fun g x => by kernel_rfl)) (by kernel_rfl) rfl (fun g x => by kernel_rfl)) (by kernel_rfl) rfl (fun g x => by kernel_rfl)
noncomputable def cond_New_p0 (x : ((Option V_graph_Graph) × V_scc_Parts × Unit)) : Option ((V_cond_Cond × V_scc_Parts × Unit) ⊕ Empty) :=
  Option.bind (scc_Parts_Len_p0 x.2) fun y1 => out1 y1
    (fun z2 =>
      ck (decide (0 ≤ z2.1) && decide (z2.1 ≤ z2.1) && decide (z2.1 * ((26 : Nat) : Int) ≤ 35184372088832)) <|
      ck (decide (0 ≤ z2.1) && decide (z2.1 ≤ z2.1) && decide (z2.1 * ((26 : Nat) : Int) ≤ 35184372088832)) <|
      ck (decide (0 ≤ z2.1) && decide (z2.1 ≤ z2.1) && decide (z2.1 * ((10 : Nat) : Int) ≤ 35184372088832)) <|
      ck (decide (0 ≤ z2.1) && decide (z2.1 ≤ z2.1) && decide (z2.1 * ((3 : Nat) : Int) ≤ 35184372088832)) <|
      Option.bind (graph_Graph_Arcs (x.1, ())) fun y3 =>
      Option.bind (lim cond_New_p0_l8_step (z2.2.1, (List.replicate z2.1.toNat ([] : List Int), List.replicate z2.1.toNat ([] : List Int), List.replicate z2.1.toNat ((0 : Int) : Int), List.replicate z2.1.toNat (false : Bool), ()), x.1, y3.1, (0 : Int), ())) fun y13 => out1 y13
        (fun z14 =>
          Option.bind (lim cond_New_p0_l32_step (z14.2.1, z2.1, (0 : Int), ())) fun y17 => out1 y17
            (fun z18 =>
              some (.inl (z18.1, z14.1, ())))))
noncomputable def k65L : LCtr := ⟨[0, 1], (.cons (.val (.ptr (.cons (.int .i64) (.cons (.lst t_easementref08_Pair) (.cons (.lst (.int .i32)) (.cons (.lst (.int .i32)) (.cons (.lst (.int .i32)) (.cons (.lst (.int .i32)) .nil)))))))) (.cons (.ptr 0 (.cons (.own (.int .i64)) (.cons (.own (.lst (.int .i64))) .nil))) .nil)), [], [], [⟨.ret, [4, 1], (.cons (.ptr 0 q91) (.cons (.ptr 0 (.cons (.own (.int .i64)) (.cons (.own (.lst (.int .i64))) .nil))) .nil)), [none, none, none, none, none, some 0, some 1, some 2]⟩], fun _ => [], cond_New_p0⟩
noncomputable def cond_New_p0_c : PI := mkPI Try.f24 k65L
theorem cond_New_p0_ok : PIOK Try.prog 24 cond_New_p0_c := proc_E k65 Try.func24 k65s (by kernel_rfl) (fun x => by kernel_rfl)
/-! ### easement/easementlaw12.of: function 31 -/
noncomputable def k66 : FE Try.prog := ⟨[(9, law10_Of_c)], [(10, [scc_Of_p0_c]), (24, [cond_New_p0_c])], [], [], ⟨law10_Of_ok, trivial⟩, ⟨⟨scc_Of_p0_ok, trivial⟩, ⟨cond_New_p0_ok, trivial⟩, trivial⟩, trivial⟩
noncomputable def law12_of (x : (Int × (List V_easementref08_Pair) × Unit)) : Option ((Option V_cond_Cond) × Bool × Unit) :=
  Option.bind (law10_Of x) fun y1 =>
  Option.bind (scc_Of_p0 (y1.1, (), ())) fun y2 => out1 y2
    (fun z3 =>
      Option.bind (cond_New_p0 (y1.1, z3)) fun y4 => out1 y4
        (fun z5 =>
          some (some z5.1, y1.2.1 == (0 : Int), ())))
noncomputable def law12_of_c : Ctr := ⟨(.cons (.int .i64) (.cons (.lst t_easementref08_Pair) .nil)), (.cons (.ptr (.cons (.lst (.lst (.int .i64))) (.cons (.lst (.lst (.int .i64))) (.cons (.lst (.int .i64)) (.cons (.lst .bool) .nil))))) (.cons .bool .nil)), law12_of, none⟩
theorem law12_of_ok : CtrOK Try.prog 31 law12_of_c := fun_E (ls := []) k66 Try.func31 trivial (by kernel_rfl) (fun x => by kernel_rfl)
/-! ### (*easement/cond.Cond).Len: function 25 -/
noncomputable def cond_Cond_Len (x : ((Option V_cond_Cond) × Unit)) : Option (Int × Unit) :=
  cond (x.1.isNone)
    (some ((0 : Int), ()))
    (ck (x.1.isSome) <|
    some (((x.1.getD (Ty.dflt (.cons (.lst (.lst (.int .i64))) (.cons (.lst (.lst (.int .i64))) (.cons (.lst (.int .i64)) (.cons (.lst .bool) .nil)))))).1.length : Int), ()))
noncomputable def cond_Cond_Len_c : Ctr := ⟨(.cons (.ptr (.cons (.lst (.lst (.int .i64))) (.cons (.lst (.lst (.int .i64))) (.cons (.lst (.int .i64)) (.cons (.lst .bool) .nil))))) .nil), (.cons (.int .i64) .nil), cond_Cond_Len, none⟩
theorem cond_Cond_Len_ok : CtrOK Try.prog 25 cond_Cond_Len_c := fun_E (ls := []) k0 Try.func25 trivial (by kernel_rfl) (fun x => by kernel_rfl)
/-! ### (*easement/cond.Cond).is: function 48 -/
noncomputable def k68 : FE Try.prog := ⟨[(25, cond_Cond_Len_c)], [], [], [], ⟨cond_Cond_Len_ok, trivial⟩, trivial, trivial⟩
noncomputable def cond_Cond_is (x : ((Option V_cond_Cond) × Int × Unit)) : Option (Bool × Unit) :=
  cond (decide (x.2.1 ≥ (0 : Int)))
    (Option.bind (cond_Cond_Len (x.1, ())) fun y1 =>
    some (decide (x.2.1 < y1.1), ()))
    (some (false, ()))
noncomputable def cond_Cond_is_c : Ctr := ⟨(.cons (.ptr (.cons (.lst (.lst (.int .i64))) (.cons (.lst (.lst (.int .i64))) (.cons (.lst (.int .i64)) (.cons (.lst .bool) .nil))))) (.cons (.int .i64) .nil)), (.cons .bool .nil), cond_Cond_is, none⟩
theorem cond_Cond_is_ok : CtrOK Try.prog 48 cond_Cond_is_c := fun_E (ls := []) k68 Try.func48 trivial (by kernel_rfl) (fun x => by kernel_rfl)
/-! ### (*easement/cond.Cond).Next: function 26 -/
noncomputable def k69 : FE Try.prog := ⟨[(48, cond_Cond_is_c), (41, slices_Clone_Lint_int_c)], [], [], [], ⟨cond_Cond_is_ok, slices_Clone_Lint_int_ok, trivial⟩, trivial, trivial⟩
noncomputable def cond_Cond_Next (x : ((Option V_cond_Cond) × Int × Unit)) : Option ((List Int) × Unit) :=
  Option.bind (cond_Cond_is x) fun y1 =>
  cond (!y1.1)
    (some (([] : List Int), ()))
    (ck (x.1.isSome) <|
    let v1 := (x.1.getD (Ty.dflt (.cons (.lst (.lst (.int .i64))) (.cons (.lst (.lst (.int .i64))) (.cons (.lst (.int .i64)) (.cons (.lst .bool) .nil)))))).1
    ck (inB x.2.1 (v1.length)) <|
    Option.bind (slices_Clone_Lint_int (rdL (.lst (.int .i64)) v1 x.2.1, ())) fun y2 =>
    some y2)
noncomputable def cond_Cond_Next_c : Ctr := ⟨(.cons (.ptr (.cons (.lst (.lst (.int .i64))) (.cons (.lst (.lst (.int .i64))) (.cons (.lst (.int .i64)) (.cons (.lst .bool) .nil))))) (.cons (.int .i64) .nil)), (.cons (.lst (.int .i64)) .nil), cond_Cond_Next, none⟩
theorem cond_Cond_Next_ok : CtrOK Try.prog 26 cond_Cond_Next_c := fun_E (ls := []) k69 Try.func26 trivial (by kernel_rfl) (fun x => by kernel_rfl)
/-! ### (*easement/cond.Cond).Back: function 27 -/
noncomputable def k70 : FE Try.prog := ⟨[(48, cond_Cond_is_c), (41, slices_Clone_Lint_int_c)], [], [], [], ⟨cond_Cond_is_ok, slices_Clone_Lint_int_ok, trivial⟩, trivial, trivial⟩
noncomputable def cond_Cond_Back (x : ((Option V_cond_Cond) × Int × Unit)) : Option ((List Int) × Unit) :=
  Option.bind (cond_Cond_is x) fun y1 =>
  cond (!y1.1)
    (some (([] : List Int), ()))
    (ck (x.1.isSome) <|
    let v1 := (x.1.getD (Ty.dflt (.cons (.lst (.lst (.int .i64))) (.cons (.lst (.lst (.int .i64))) (.cons (.lst (.int .i64)) (.cons (.lst .bool) .nil)))))).2.1
    ck (inB x.2.1 (v1.length)) <|
    Option.bind (slices_Clone_Lint_int (rdL (.lst (.int .i64)) v1 x.2.1, ())) fun y2 =>
    some y2)
noncomputable def cond_Cond_Back_c : Ctr := ⟨(.cons (.ptr (.cons (.lst (.lst (.int .i64))) (.cons (.lst (.lst (.int .i64))) (.cons (.lst (.int .i64)) (.cons (.lst .bool) .nil))))) (.cons (.int .i64) .nil)), (.cons (.lst (.int .i64)) .nil), cond_Cond_Back, none⟩
theorem cond_Cond_Back_ok : CtrOK Try.prog 27 cond_Cond_Back_c := fun_E (ls := []) k70 Try.func27 trivial (by kernel_rfl) (fun x => by kernel_rfl)
/-! ### (*easement/cond.Cond).Depth: function 28 -/
noncomputable def k71 : FE Try.prog := ⟨[(48, cond_Cond_is_c)], [], [], [], ⟨cond_Cond_is_ok, trivial⟩, trivial, trivial⟩
noncomputable def cond_Cond_Depth (x : ((Option V_cond_Cond) × Int × Unit)) : Option (Int × Unit) :=
  Option.bind (cond_Cond_is x) fun y1 =>
  cond (!y1.1)
    (some ((0 : Int), ()))
    (ck (x.1.isSome) <|
    let v1 := (x.1.getD (Ty.dflt (.cons (.lst (.lst (.int .i64))) (.cons (.lst (.lst (.int .i64))) (.cons (.lst (.int .i64)) (.cons (.lst .bool) .nil)))))).2.2.1
    ck (inB x.2.1 (v1.length)) <|
    some (rdL (.int .i64) v1 x.2.1, ()))
noncomputable def cond_Cond_Depth_c : Ctr := ⟨(.cons (.ptr (.cons (.lst (.lst (.int .i64))) (.cons (.lst (.lst (.int .i64))) (.cons (.lst (.int .i64)) (.cons (.lst .bool) .nil))))) (.cons (.int .i64) .nil)), (.cons (.int .i64) .nil), cond_Cond_Depth, none⟩
theorem cond_Cond_Depth_ok : CtrOK Try.prog 28 cond_Cond_Depth_c := fun_E (ls := []) k71 Try.func28 trivial (by kernel_rfl) (fun x => by kernel_rfl)
/-! ### (*easement/cond.Cond).Loops: function 29 -/
noncomputable def k72 : FE Try.prog := ⟨[(48, cond_Cond_is_c)], [], [], [], ⟨cond_Cond_is_ok, trivial⟩, trivial, trivial⟩
noncomputable def cond_Cond_Loops (x : ((Option V_cond_Cond) × Int × Unit)) : Option (Bool × Unit) :=
  Option.bind (cond_Cond_is x) fun y1 =>
  ck ((x.1.isSome) || !y1.1) <|
  let v1 := (x.1.getD (Ty.dflt (.cons (.lst (.lst (.int .i64))) (.cons (.lst (.lst (.int .i64))) (.cons (.lst (.int .i64)) (.cons (.lst .bool) .nil)))))).2.2.2.1
  ck ((inB x.2.1 (v1.length)) || !y1.1) <|
  some (cond y1.1 (rdL .bool v1 x.2.1) false, ())
noncomputable def cond_Cond_Loops_c : Ctr := ⟨(.cons (.ptr (.cons (.lst (.lst (.int .i64))) (.cons (.lst (.lst (.int .i64))) (.cons (.lst (.int .i64)) (.cons (.lst .bool) .nil))))) (.cons (.int .i64) .nil)), (.cons .bool .nil), cond_Cond_Loops, none⟩
theorem cond_Cond_Loops_ok : CtrOK Try.prog 29 cond_Cond_Loops_c := fun_E (ls := []) k72 Try.func29 trivial (by kernel_rfl) (fun x => by kernel_rfl)
/-! ### easement/easementlaw12.awake: function 23 -/
noncomputable def k73 : FE Try.prog := ⟨[(31, law12_of_c), (26, cond_Cond_Next_c), (22, ref01_Same_c), (27, cond_Cond_Back_c), (28, cond_Cond_Depth_c), (29, cond_Cond_Loops_c), (25, cond_Cond_Len_c)], [], [], [], ⟨law12_of_ok, cond_Cond_Next_ok, ref01_Same_ok, cond_Cond_Back_ok, cond_Cond_Depth_ok, cond_Cond_Loops_ok, cond_Cond_Len_ok, trivial⟩, trivial, trivial⟩
noncomputable def law12_awake (x : Unit) : Option (Bool × Unit) :=
  Option.bind (law12_of ((4 : Int), [((0 : Int), (1 : Int), ()), ((1 : Int), (0 : Int), ()), ((1 : Int), (2 : Int), ()), ((3 : Int), (0 : Int), ())], ())) fun y1 =>
  cond (y1.2.1)
    (Option.bind (cond_Cond_Next (y1.1, (1 : Int), ())) fun y2 =>
    Option.bind (ref01_Same (y2.1, [(0 : Int)], ())) fun y3 =>
    cond (y3.1)
      (Option.bind (cond_Cond_Back (y1.1, (1 : Int), ())) fun y4 =>
      Option.bind (ref01_Same (y4.1, [(2 : Int)], ())) fun y5 =>
      cond (y5.1)
        (Option.bind (cond_Cond_Depth (y1.1, (2 : Int), ())) fun y6 =>
        cond (y6.1 == (2 : Int))
          (Option.bind (cond_Cond_Loops (y1.1, (1 : Int), ())) fun y7 =>
          cond (y7.1)
            (Option.bind (cond_Cond_Len (y1.1, ())) fun y8 =>
            some (y8.1 == (3 : Int), ()))
            (some (false, ())))
          (some (false, ())))
        (some (false, ())))
      (some (false, ())))
    (some (false, ()))
noncomputable def law12_awake_c : Ctr := ⟨.nil, (.cons .bool .nil), law12_awake, none⟩
theorem law12_awake_ok : CtrOK Try.prog 23 law12_awake_c := fun_E (ls := []) k73 Try.func23 trivial (by kernel_rfl) (fun x => by kernel_rfl)
/-! ### (*easement/cond.Cond).is: function 48, at objects -/
/-! ### (*easement/cond.Cond).Next: function 26, at objects -/
/-! ### (*easement/cond.Cond).Arcs: function 30, at objects -/
/-! ### (*easement/cond.Cond).Arcs: function 30 -/
noncomputable def k81 : FE Try.prog := ⟨[(25, cond_Cond_Len_c)], [], [], [], ⟨cond_Cond_Len_ok, trivial⟩, trivial, trivial⟩
noncomputable def cond_Cond_Arcs_l6_step (g : ((Option V_cond_Cond) × Int × Int × Int × Unit) → Option ((Int × Unit) ⊕ Empty)) (x : ((Option V_cond_Cond) × Int × Int × Int × Unit)) : Option ((Int × Unit) ⊕ Empty) :=
  cond (decide (x.2.2.2.1 < x.2.2.1))
    (ck (x.1.isSome) <|
    let v1 := (x.1.getD (Ty.dflt (.cons (.lst (.lst (.int .i64))) (.cons (.lst (.lst (.int .i64))) (.cons (.lst (.int .i64)) (.cons (.lst .bool) .nil)))))).1
    ck (inB x.2.2.2.1 (v1.length)) <|
    g (x.1, IntKind.i64.wrap (x.2.1 + ((rdL (.lst (.int .i64)) v1 x.2.2.2.1).length : Int)), x.2.2.1, IntKind.i64.wrap (x.2.2.2.1 + (1 : Int)), ()))
    (some (.inl (x.2.1, ())))
noncomputable def k81l1 : LCtr := ⟨[0, 3, 6, 7], (.cons (.val (.ptr (.cons (.lst (.lst (.int .i64))) (.cons (.lst (.lst (.int .i64))) (.cons (.lst (.int .i64)) (.cons (.lst .bool) .nil)))))) (.cons (.val (.int .i64)) (.cons (.val (.int .i64)) (.cons (.val (.int .i64)) .nil)))), [], [], [⟨(.exit 0), [3], (.cons (.val (.int .i64)) .nil), []⟩], fun _ => [], lim cond_Cond_Arcs_l6_step⟩
theorem k81s : LsOK Try.prog Try.f30.ntmps (codeOf Try.f30) [(6, k81l1)] := loop_E 6 k81l1 k81 trivial (by kernel_rfl) rfl (fun g x => by kernel_rfl)
noncomputable def cond_Cond_Arcs (x : ((Option V_cond_Cond) × Unit)) : Option (Int × Unit) :=
  Option.bind (cond_Cond_Len x) fun y1 =>
  Option.bind (lim cond_Cond_Arcs_l6_step (x.1, (0 : Int), y1.1, (0 : Int), ())) fun y2 => out1 y2
    (fun z3 =>
      some z3)
noncomputable def cond_Cond_Arcs_c : Ctr := ⟨(.cons (.ptr (.cons (.lst (.lst (.int .i64))) (.cons (.lst (.lst (.int .i64))) (.cons (.lst (.int .i64)) (.cons (.lst .bool) .nil))))) .nil), (.cons (.int .i64) .nil), cond_Cond_Arcs, none⟩
theorem cond_Cond_Arcs_ok : CtrOK Try.prog 30 cond_Cond_Arcs_c := fun_E k81 Try.func30 k81s (by kernel_rfl) (fun x => by kernel_rfl)
/-! ### (*easement/cond.Cond).Ends: function 32 -/
noncomputable def k82 : FE Try.prog := ⟨[(25, cond_Cond_Len_c)], [], [], [], ⟨cond_Cond_Len_ok, trivial⟩, trivial, trivial⟩
noncomputable def cond_Cond_Ends_j37_v (x : ((List Int) × Int × Bool × Unit)) : Option (V_point_Points ⊕ Empty) :=
  cond (x.2.2.1)
    (ck (roomB (x.1 ++ [x.2.1]).length 10) <|
    some (.inl (x.1 ++ [x.2.1], ())))
    (some (.inl (x.1, ())))
noncomputable def k82l1 : LCtr := ⟨[3, 4, 18], q87, [], [0, 6, 7], [⟨.normal, [3], (.cons (.own (.int .i64)) .nil), [none]⟩], fun _ => [], cond_Cond_Ends_j37_v⟩
noncomputable def cond_Cond_Ends_l6_step (g : ((Option V_cond_Cond) × (List Int) × Int × Int × Unit) → Option (V_point_Points ⊕ Empty)) (x : ((Option V_cond_Cond) × (List Int) × Int × Int × Unit)) : Option (V_point_Points ⊕ Empty) :=
  cond (decide (x.2.2.2.1 < x.2.2.1))
    (ck (x.1.isSome) <|
    let v1 := (x.1.getD (Ty.dflt (.cons (.lst (.lst (.int .i64))) (.cons (.lst (.lst (.int .i64))) (.cons (.lst (.int .i64)) (.cons (.lst .bool) .nil)))))).1
    ck (inB x.2.2.2.1 (v1.length)) <|
    Option.bind (cond_Cond_Ends_j37_v (x.2.1, x.2.2.2.1, ((rdL (.lst (.int .i64)) v1 x.2.2.2.1).length : Int) == (0 : Int), ())) fun y2 => out1 y2
      (fun z3 =>
        g (x.1, z3.1, x.2.2.1, IntKind.i64.wrap (x.2.2.2.1 + (1 : Int)), ())))
    (some (.inl (x.2.1, ())))
noncomputable def k82l2 : LCtr := ⟨[0, 3, 6, 7], (.cons (.val (.ptr (.cons (.lst (.lst (.int .i64))) (.cons (.lst (.lst (.int .i64))) (.cons (.lst (.int .i64)) (.cons (.lst .bool) .nil)))))) (.cons (.own (.int .i64)) (.cons (.val (.int .i64)) (.cons (.val (.int .i64)) .nil)))), [none], [], [⟨(.exit 0), [3], (.cons (.own (.int .i64)) .nil), [none]⟩], fun _ => [], lim cond_Cond_Ends_l6_step⟩
theorem k82s : LsOK Try.prog Try.f32.ntmps (codeOf Try.f32) [(6, k82l2), (786469, k82l1)] := loop_E 6 k82l2 k82 (join_E 786469 k82l1 k82 trivial (by kernel_rfl) (fun x => by kernel_rfl)) (by kernel_rfl) rfl (fun g x => by kernel_rfl)
noncomputable def cond_Cond_Ends (x : ((Option V_cond_Cond) × Unit)) : Option ((List Int) × Unit) :=
  Option.bind (cond_Cond_Len x) fun y1 =>
  Option.bind (lim cond_Cond_Ends_l6_step (x.1, ([] : List Int), y1.1, (0 : Int), ())) fun y4 => out1 y4
    (fun z5 =>
      some z5)
noncomputable def cond_Cond_Ends_c : Ctr := ⟨(.cons (.ptr (.cons (.lst (.lst (.int .i64))) (.cons (.lst (.lst (.int .i64))) (.cons (.lst (.int .i64)) (.cons (.lst .bool) .nil))))) .nil), (.cons (.lst (.int .i64)) .nil), cond_Cond_Ends, none⟩
theorem cond_Cond_Ends_ok : CtrOK Try.prog 32 cond_Cond_Ends_c := fun_E k82 Try.func32 k82s (by kernel_rfl) (fun x => by kernel_rfl)
/-! ### easement/easementref12.Leads: function 34 -/
noncomputable def ref12_Leads_l4_step (g : T45 → Option ((Bool × Unit) ⊕ (Unit ⊕ Empty))) (x : T45) : Option ((Bool × Unit) ⊕ (Unit ⊕ Empty)) :=
  cond (decide (x.2.2.2.2.1 < (x.1.length : Int)))
    (ck (inB x.2.2.2.2.1 (x.1.length)) <|
    let v1 := (rdL t_easementref08_Pair x.1 x.2.2.2.2.1).1
    ck (inB v1 (x.2.1.length)) <|
    let v2 := (rdL (.int .i64) x.2.1 v1) == x.2.2.1
    ck ((inB x.2.2.2.2.1 (x.1.length)) || !v2) <|
    let v3 := (rdL t_easementref08_Pair x.1 x.2.2.2.2.1).2.1
    ck ((inB v3 (x.2.1.length)) || !v2) <|
    cond (cond v2 ((rdL (.int .i64) x.2.1 v3) == x.2.2.2.1) false)
      (some (.inl (true, ())))
      (g (x.1, x.2.1, x.2.2.1, x.2.2.2.1, IntKind.i64.wrap (x.2.2.2.2.1 + (1 : Int)), ())))
    (some (.inr (.inl ())))
noncomputable def k83l1 : LCtr := ⟨[0, 1, 2, 3, 9], (.cons (.val (.lst t_easementref08_Pair)) (.cons (.val (.lst (.int .i64))) (.cons (.val (.int .i64)) (.cons (.val (.int .i64)) (.cons (.val (.int .i64)) .nil))))), [], [], [⟨.ret, [8], (.cons (.val .bool) .nil), []⟩, ⟨(.exit 0), [], .nil, []⟩], fun _ => [], lim ref12_Leads_l4_step⟩
theorem k83s : LsOK Try.prog Try.f34.ntmps (codeOf Try.f34) [(4, k83l1)] := loop_E 4 k83l1 k0 trivial (by kernel_rfl) rfl (fun g x => by kernel_rfl)
noncomputable def ref12_Leads (x : T46) : Option (Bool × Unit) :=
  Option.bind (lim ref12_Leads_l4_step (x.1, x.2.1, x.2.2.1, x.2.2.2.1, (0 : Int), ())) fun y1 => out2 y1
    (fun z2 =>
      some z2)
    (fun z3 =>
      some (false, ()))
noncomputable def ref12_Leads_c : Ctr := ⟨(.cons (.lst t_easementref08_Pair) (.cons (.lst (.int .i64)) (.cons (.int .i64) (.cons (.int .i64) .nil)))), (.cons .bool .nil), ref12_Leads, none⟩
theorem ref12_Leads_ok : CtrOK Try.prog 34 ref12_Leads_c := fun_E k0 Try.func34 k83s (by kernel_rfl) (fun x => by kernel_rfl)
/-! ### easement/easementref12.Next: function 33 -/
noncomputable def k84 : FE Try.prog := ⟨[(34, ref12_Leads_c)], [], [], [], ⟨ref12_Leads_ok, trivial⟩, trivial, trivial⟩
noncomputable def ref12_Next_j53_v (x : ((List Int) × Int × Bool × Unit)) : Option (V_point_Points ⊕ Empty) :=
  cond (x.2.2.1)
    (ck (roomB (x.1 ++ [x.2.1]).length 10) <|
    some (.inl (x.1 ++ [x.2.1], ())))
    (some (.inl (x.1, ())))
noncomputable def k84l1 : LCtr := ⟨[9, 10, 26], q87, [], [0, 1, 2, 3, 10], [⟨.normal, [9], (.cons (.own (.int .i64)) .nil), [none]⟩], fun _ => [], ref12_Next_j53_v⟩
noncomputable def ref12_Next_l6_step (g : T47 → Option (V_point_Points ⊕ Empty)) (x : T47) : Option (V_point_Points ⊕ Empty) :=
  cond (decide (x.2.2.2.2.2.1 < x.2.2.1))
    (cond (x.2.2.2.2.2.1 != x.2.2.2.1)
      (Option.bind (ref12_Leads (x.1, x.2.1, x.2.2.2.1, x.2.2.2.2.2)) fun y1 =>
      Option.bind (ref12_Next_j53_v (x.2.2.2.2.1, x.2.2.2.2.2.1, y1)) fun y2 => out1 y2
        (fun z3 =>
          g (x.1, x.2.1, x.2.2.1, x.2.2.2.1, z3.1, IntKind.i64.wrap (x.2.2.2.2.2.1 + (1 : Int)), ())))
      (Option.bind (ref12_Next_j53_v (x.2.2.2.2.1, x.2.2.2.2.2.1, false, ())) fun y4 => out1 y4
        (fun z5 =>
          g (x.1, x.2.1, x.2.2.1, x.2.2.2.1, z5.1, IntKind.i64.wrap (x.2.2.2.2.2.1 + (1 : Int)), ()))))
    (some (.inl (x.2.2.2.2.1, ())))
noncomputable def k84l2 : LCtr := ⟨[0, 1, 2, 3, 9, 10], q110, [none], [], [⟨(.exit 0), [9], (.cons (.own (.int .i64)) .nil), [none]⟩], fun _ => [], lim ref12_Next_l6_step⟩
theorem k84s : LsOK Try.prog Try.f33.ntmps (codeOf Try.f33) [(6, k84l2), (786485, k84l1)] := loop_E 6 k84l2 k84 (join_E 786485 k84l1 k84 trivial (by kernel_rfl) (fun x => by kernel_rfl)) (by kernel_rfl) rfl (fun g x => by kernel_rfl)
noncomputable def ref12_Next (x : T46) : Option ((List Int) × Unit) :=
  Option.bind (lim ref12_Next_l6_step (x.1, x.2.1, x.2.2.1, x.2.2.2.1, ([] : List Int), (0 : Int), ())) fun y6 => out1 y6
    (fun z7 =>
      some z7)
noncomputable def ref12_Next_c : Ctr := ⟨(.cons (.lst t_easementref08_Pair) (.cons (.lst (.int .i64)) (.cons (.int .i64) (.cons (.int .i64) .nil)))), (.cons (.lst (.int .i64)) .nil), ref12_Next, none⟩
theorem ref12_Next_ok : CtrOK Try.prog 33 ref12_Next_c := fun_E k84 Try.func33 k84s (by kernel_rfl) (fun x => by kernel_rfl)
/-! ### easement/easementref12.Depth: function 35 -/
noncomputable def k85L (r : T46 → Option (Int × Unit)) : Ctr := ⟨(.cons (.lst t_easementref08_Pair) (.cons (.lst (.int .i64)) (.cons (.int .i64) (.cons (.int .i64) .nil)))), (.cons (.int .i64) .nil), r, none⟩
noncomputable def k85 (r : T46 → Option (Int × Unit)) (hr : CtrOK Try.prog 35 (k85L r)) : FE Try.prog := ⟨[(33, ref12_Next_c), (35, k85L r)], [], [], [], ⟨ref12_Next_ok, hr, trivial⟩, trivial, trivial⟩
noncomputable def ref12_Depth_j83_v (r : T46 → Option (Int × Unit)) (x : V_easementref22_Point) : Option ((Int × Unit) ⊕ Empty) :=
  cond (x.2.2.1)
    (some (.inl (x.2.1, ())))
    (some (.inl (x.1, ())))
noncomputable def k85l1 (r : T46 → Option (Int × Unit)) : LCtr := ⟨[9, 12, 41], q25, [], [0, 1, 2, 10, 11], [⟨.normal, [9], (.cons (.val (.int .i64)) .nil), []⟩], fun _ => [], ref12_Depth_j83_v r⟩
noncomputable def ref12_Depth_j59_v (r : T46 → Option (Int × Unit)) (x : ((List V_easementref08_Pair) × (List Int) × Int × Int × (List Int) × Int × Bool × Unit)) : Option ((Int × Unit) ⊕ Empty) :=
  cond (x.2.2.2.2.2.2.1)
    (ck (inB x.2.2.2.2.2.1 (x.2.2.2.2.1.length)) <|
    Option.bind (r (x.1, x.2.1, x.2.2.1, rdL (.int .i64) x.2.2.2.2.1 x.2.2.2.2.2.1, ())) fun y2 =>
    let v1 := IntKind.i64.wrap (y2.1 + (1 : Int))
    Option.bind (ref12_Depth_j83_v r (x.2.2.2.1, v1, decide (v1 > x.2.2.2.1), ())) fun y3 => out1 y3
      (fun z4 =>
        some (.inl z4)))
    (some (.inl (x.2.2.2.1, ())))
noncomputable def k85l2 (r : T46 → Option (Int × Unit)) : LCtr := ⟨[0, 1, 2, 9, 10, 11, 29], (.cons (.val (.lst t_easementref08_Pair)) (.cons (.val (.lst (.int .i64))) (.cons (.val (.int .i64)) (.cons (.val (.int .i64)) (.cons (.val (.lst (.int .i64))) (.cons (.val (.int .i64)) (.cons (.val .bool) .nil))))))), [], [0, 1, 2, 3, 10, 11], [⟨.normal, [9], (.cons (.val (.int .i64)) .nil), []⟩], fun _ => [], ref12_Depth_j59_v r⟩
noncomputable def ref12_Depth_l8_step (r : T46 → Option (Int × Unit)) (g : T49 → Option ((Int × Unit) ⊕ Empty)) (x : T49) : Option ((Int × Unit) ⊕ Empty) :=
  cond (decide (x.2.2.2.2.2.2.1 < (x.2.2.2.2.2.1.length : Int)))
    (ck (inB x.2.2.2.2.2.2.1 (x.2.2.2.2.2.1.length)) <|
    Option.bind (ref12_Depth_j59_v r (x.1, x.2.1, x.2.2.1, x.2.2.2.2.1, x.2.2.2.2.2.1, x.2.2.2.2.2.2.1, decide ((rdL (.int .i64) x.2.2.2.2.2.1 x.2.2.2.2.2.2.1) < x.2.2.2.1), ())) fun y5 => out1 y5
      (fun z6 =>
        g (x.1, x.2.1, x.2.2.1, x.2.2.2.1, z6.1, x.2.2.2.2.2.1, IntKind.i64.wrap (x.2.2.2.2.2.2.1 + (1 : Int)), ())))
    (some (.inl (x.2.2.2.2.1, ())))
noncomputable def k85l3 (r : T46 → Option (Int × Unit)) : LCtr := ⟨[0, 1, 2, 3, 9, 10, 11], (.cons (.val (.lst t_easementref08_Pair)) (.cons (.val (.lst (.int .i64))) (.cons (.val (.int .i64)) (.cons (.val (.int .i64)) (.cons (.val (.int .i64)) (.cons (.val (.lst (.int .i64))) (.cons (.val (.int .i64)) .nil))))))), [], [], [⟨(.exit 0), [9], (.cons (.val (.int .i64)) .nil), []⟩], fun _ => [], lim (ref12_Depth_l8_step r)⟩
theorem k85s (r : T46 → Option (Int × Unit)) (hr : CtrOK Try.prog 35 (k85L r)) : LsOK Try.prog Try.f35.ntmps (codeOf Try.f35) [(8, k85l3 r), (917563, k85l2 r), (1179731, k85l1 r)] := loop_E 8 (k85l3 r) (k85 r hr) (join_E 917563 (k85l2 r) (k85 r hr) (join_E 1179731 (k85l1 r) (k85 r hr) trivial (by kernel_rfl) (fun x => by kernel_rfl)) (by kernel_rfl) (fun x => by kernel_rfl)) (by kernel_rfl) rfl (fun g x => by kernel_rfl)
noncomputable def ref12_Depth_step (r : T46 → Option (Int × Unit)) (x : T46) : Option (Int × Unit) :=
  Option.bind (ref12_Next x) fun y1 =>
  Option.bind (lim (ref12_Depth_l8_step r) (x.1, x.2.1, x.2.2.1, x.2.2.2.1, (0 : Int), y1.1, (0 : Int), ())) fun y7 => out1 y7
    (fun z8 =>
      some z8)
noncomputable def ref12_Depth : T46 → Option (Int × Unit) := lim ref12_Depth_step
noncomputable def ref12_Depth_c : Ctr := ⟨(.cons (.lst t_easementref08_Pair) (.cons (.lst (.int .i64)) (.cons (.int .i64) (.cons (.int .i64) .nil)))), (.cons (.int .i64) .nil), ref12_Depth, none⟩
theorem ref12_Depth_ok : CtrOK Try.prog 35 ref12_Depth_c := rec_E (ins := (.cons (.lst t_easementref08_Pair) (.cons (.lst (.int .i64)) (.cons (.int .i64) (.cons (.int .i64) .nil))))) (out := (.cons (.int .i64) .nil)) (step := ref12_Depth_step) Try.func35 (by kernel_rfl) fun r hr => fun_E (ins := (.cons (.lst t_easementref08_Pair) (.cons (.lst (.int .i64)) (.cons (.int .i64) (.cons (.int .i64) .nil))))) (out := (.cons (.int .i64) .nil)) (g := ref12_Depth_step r) (k85 r hr) Try.func35 (k85s r hr) (by kernel_rfl) (fun x => by kernel_rfl)
/-! ### easement/easementlaw12.CondTells: function 7 -/
noncomputable def k86 : FE Try.prog := ⟨[(23, law12_awake_c), (31, law12_of_c), (25, cond_Cond_Len_c), (30, cond_Cond_Arcs_c), (32, cond_Cond_Ends_c), (17, ref11_Of_c), (18, ref11_Count_c), (33, ref12_Next_c), (34, ref12_Leads_c), (26, cond_Cond_Next_c), (22, ref01_Same_c), (27, cond_Cond_Back_c), (28, cond_Cond_Depth_c), (35, ref12_Depth_c), (29, cond_Cond_Loops_c)], [], [], [], ⟨law12_awake_ok, law12_of_ok, cond_Cond_Len_ok, cond_Cond_Arcs_ok, cond_Cond_Ends_ok, ref11_Of_ok, ref11_Count_ok, ref12_Next_ok, ref12_Leads_ok, cond_Cond_Next_ok, ref01_Same_ok, cond_Cond_Back_ok, cond_Cond_Depth_ok, ref12_Depth_ok, cond_Cond_Loops_ok, trivial⟩, trivial, trivial⟩
noncomputable def law12_CondTells_j147_v (x : ((List Int) × Int × Bool × Unit)) : Option (V_point_Points ⊕ Empty) :=
  cond (x.2.2.1)
    (ck (roomB (x.1 ++ [x.2.1]).length 10) <|
    some (.inl (x.1 ++ [x.2.1], ())))
    (some (.inl (x.1, ())))
noncomputable def k86l1 : LCtr := ⟨[12, 13, 73], q87, [], [1, 7, 9, 10, 11, 13, 14], [⟨.normal, [12], (.cons (.own (.int .i64)) .nil), [none]⟩], fun _ => [], law12_CondTells_j147_v⟩
noncomputable def law12_CondTells_j187_v (x : ((List Int) × Int × Bool × Unit)) : Option (V_point_Points ⊕ Empty) :=
  cond (x.2.2.1)
    (ck (roomB (x.1 ++ [x.2.1]).length 10) <|
    some (.inl (x.1 ++ [x.2.1], ())))
    (some (.inl (x.1, ())))
noncomputable def k86l2 : LCtr := ⟨[15, 16, 93], q87, [], [1, 9, 10, 13, 16], [⟨.normal, [15], (.cons (.own (.int .i64)) .nil), [none]⟩], fun _ => [], law12_CondTells_j187_v⟩
noncomputable def law12_CondTells_l38_step (g : T47 → Option (V_point_Points ⊕ Empty)) (x : T47) : Option (V_point_Points ⊕ Empty) :=
  cond (decide (x.2.2.2.2.2.1 < x.2.2.1))
    (cond (x.2.2.2.2.2.1 != x.2.2.2.1)
      (Option.bind (ref12_Leads (x.1, x.2.1, x.2.2.2.2.2.1, x.2.2.2.1, ())) fun y12 =>
      Option.bind (law12_CondTells_j187_v (x.2.2.2.2.1, x.2.2.2.2.2.1, y12)) fun y13 => out1 y13
        (fun z14 =>
          g (x.1, x.2.1, x.2.2.1, x.2.2.2.1, z14.1, IntKind.i64.wrap (x.2.2.2.2.2.1 + (1 : Int)), ())))
      (Option.bind (law12_CondTells_j187_v (x.2.2.2.2.1, x.2.2.2.2.2.1, false, ())) fun y15 => out1 y15
        (fun z16 =>
          g (x.1, x.2.1, x.2.2.1, x.2.2.2.1, z16.1, IntKind.i64.wrap (x.2.2.2.2.2.1 + (1 : Int)), ()))))
    (some (.inl (x.2.2.2.2.1, ())))
noncomputable def k86l3 : LCtr := ⟨[1, 9, 10, 13, 15, 16], q110, [none], [1, 7, 9, 10, 11, 12, 13, 14], [⟨(.exit 2), [15], (.cons (.own (.int .i64)) .nil), [none]⟩], fun _ => [], lim law12_CondTells_l38_step⟩
noncomputable def law12_CondTells_l22_step (g : T50 → Option ((Bool × (List Int) × Unit) ⊕ (V_scc_call ⊕ Empty))) (x : T50) : Option ((Bool × (List Int) × Unit) ⊕ (V_scc_call ⊕ Empty)) :=
  cond (decide (x.2.2.2.2.2.2.1 < x.2.2.2.1))
    (Option.bind (ref12_Next (x.1, x.2.2.1, x.2.2.2.1, x.2.2.2.2.2.2)) fun y9 =>
    Option.bind (law12_CondTells_j147_v (x.2.2.2.2.2.1, x.2.2.2.2.2.2.1, (y9.1.length : Int) == (0 : Int), ())) fun y10 => out1 y10
      (fun z11 =>
        Option.bind (lim law12_CondTells_l38_step (x.1, x.2.2.1, x.2.2.2.1, x.2.2.2.2.2.2.1, ([] : List Int), (0 : Int), ())) fun y17 => out1 y17
          (fun z18 =>
            Option.bind (cond_Cond_Next (x.2.1, x.2.2.2.2.2.2)) fun y19 =>
            Option.bind (ref01_Same (y19.1, y9)) fun y20 =>
            cond (!(!y20.1))
              (Option.bind (cond_Cond_Back (x.2.1, x.2.2.2.2.2.2)) fun y21 =>
              Option.bind (ref01_Same (y21.1, z18)) fun y22 =>
              cond (!(!y22.1))
                (Option.bind (cond_Cond_Depth (x.2.1, x.2.2.2.2.2.2)) fun y23 =>
                Option.bind (ref12_Depth (x.1, x.2.2.1, x.2.2.2.1, x.2.2.2.2.2.2)) fun y24 =>
                cond (!(y23.1 != y24.1))
                  (Option.bind (cond_Cond_Loops (x.2.1, x.2.2.2.2.2.2)) fun y25 =>
                  Option.bind (ref12_Leads (x.1, x.2.2.1, x.2.2.2.2.2.2.1, x.2.2.2.2.2.2)) fun y26 =>
                  cond (!(y25.1 == y26.1))
                    (some (.inl (false, z11)))
                    (g (x.1, x.2.1, x.2.2.1, x.2.2.2.1, IntKind.i64.wrap (x.2.2.2.2.1 + (y9.1.length : Int)), z11.1, IntKind.i64.wrap (x.2.2.2.2.2.2.1 + (1 : Int)), ())))
                  (some (.inl (false, z11))))
                (some (.inl (false, z11))))
              (some (.inl (false, z11))))))
    (some (.inr (.inl (x.2.2.2.2.1, x.2.2.2.2.2.1, ()))))
noncomputable def k86l4 : LCtr := ⟨[1, 7, 9, 10, 11, 12, 13], (.cons (.val (.lst t_easementref08_Pair)) (.cons (.val (.ptr (.cons (.lst (.lst (.int .i64))) (.cons (.lst (.lst (.int .i64))) (.cons (.lst (.int .i64)) (.cons (.lst .bool) .nil)))))) (.cons (.val (.lst (.int .i64))) (.cons (.val (.int .i64)) (.cons (.val (.int .i64)) (.cons (.own (.int .i64)) (.cons (.val (.int .i64)) .nil))))))), [none], [2, 7, 10], [⟨.ret, [6, 12], (.cons (.val .bool) (.cons (.own (.int .i64)) .nil)), [none]⟩, ⟨(.exit 0), [11, 12], (.cons (.val (.int .i64)) (.cons (.own (.int .i64)) .nil)), [none]⟩], fun _ => [], lim law12_CondTells_l22_step⟩
theorem k86s : LsOK Try.prog Try.f7.ntmps (codeOf Try.f7) [(22, k86l4), (38, k86l3), (2883771, k86l2), (2097299, k86l1)] := loop_E 22 k86l4 k86 (loop_E 38 k86l3 k86 (join_E 2883771 k86l2 k86 (join_E 2097299 k86l1 k86 trivial (by kernel_rfl) (fun x => by kernel_rfl)) (by kernel_rfl) (fun x => by kernel_rfl)) (by kernel_rfl) rfl (fun g x => by kernel_rfl)) (by kernel_rfl) rfl (fun g x => by kernel_rfl)
noncomputable def law12_CondTells (x : (Int × (List V_easementref08_Pair) × Int × Unit)) : Option (Bool × Unit) :=
  cond (cond (decide (x.1 > (10 : Int))) true (decide ((x.2.1.length : Int) > (24 : Int))))
    (Option.bind (law12_awake ()) fun y1 =>
    some y1)
    (Option.bind (law12_of (x.1, x.2.1, ())) fun y2 =>
    cond (!y2.2.1)
      (Option.bind (cond_Cond_Len (y2.1, ())) fun y3 =>
      cond (y3.1 == (0 : Int))
        (Option.bind (cond_Cond_Arcs (y2.1, ())) fun y4 =>
        cond (y4.1 == (0 : Int))
          (Option.bind (cond_Cond_Ends (y2.1, ())) fun y5 =>
          cond ((y5.1.length : Int) == (0 : Int))
            (Option.bind (law12_awake ()) fun y6 =>
            some y6)
            (some (false, ())))
          (some (false, ())))
        (some (false, ())))
      (Option.bind (ref11_Of (x.1, x.2.1, ())) fun y7 =>
      Option.bind (ref11_Count y7) fun y8 =>
      Option.bind (lim law12_CondTells_l22_step (x.2.1, y2.1, y7.1, y8.1, (0 : Int), ([] : List Int), (0 : Int), ())) fun y27 => out2 y27
        (fun z28 =>
          some (z28.1, ()))
        (fun z29 =>
          Option.bind (cond_Cond_Len (y2.1, ())) fun y30 =>
          cond (!(y30.1 != y8.1))
            (Option.bind (cond_Cond_Arcs (y2.1, ())) fun y31 =>
            cond (!(y31.1 != z29.1))
              (Option.bind (cond_Cond_Ends (y2.1, ())) fun y32 =>
              Option.bind (ref01_Same (y32.1, z29.2)) fun y33 =>
              cond (!y33.1)
                (some (false, ()))
                (Option.bind (cond_Cond_Len ((none : Option V_cond_Cond), ())) fun y34 =>
                cond (!(y34.1 != (0 : Int)))
                  (Option.bind (cond_Cond_Next ((none : Option V_cond_Cond), (0 : Int), ())) fun y35 =>
                  cond (!(decide ((y35.1.length : Int) > (0 : Int))))
                    (Option.bind (cond_Cond_Back ((none : Option V_cond_Cond), (0 : Int), ())) fun y36 =>
                    cond (!(decide ((y36.1.length : Int) > (0 : Int))))
                      (Option.bind (cond_Cond_Depth ((none : Option V_cond_Cond), (0 : Int), ())) fun y37 =>
                      cond (!(y37.1 != (0 : Int)))
                        (Option.bind (cond_Cond_Loops ((none : Option V_cond_Cond), (0 : Int), ())) fun y38 =>
                        cond (!y38.1)
                          (Option.bind (cond_Cond_Ends ((none : Option V_cond_Cond), ())) fun y39 =>
                          cond (!(decide ((y39.1.length : Int) > (0 : Int))))
                            (Option.bind (cond_Cond_Arcs ((none : Option V_cond_Cond), ())) fun y40 =>
                            cond (y40.1 != (0 : Int))
                              (some (false, ()))
                              (cond (!(cond (decide (x.2.2.1 ≥ (0 : Int))) (decide (x.2.2.1 < y8.1)) false))
                                (Option.bind (cond_Cond_Next (y2.1, x.2.2)) fun y41 =>
                                cond ((y41.1.length : Int) == (0 : Int))
                                  (Option.bind (cond_Cond_Back (y2.1, x.2.2)) fun y42 =>
                                  cond ((y42.1.length : Int) == (0 : Int))
                                    (Option.bind (cond_Cond_Depth (y2.1, x.2.2)) fun y43 =>
                                    cond (y43.1 == (0 : Int))
                                      (Option.bind (cond_Cond_Loops (y2.1, x.2.2)) fun y44 =>
                                      cond (!y44.1)
                                        (Option.bind (law12_awake ()) fun y45 =>
                                        some y45)
                                        (some (false, ())))
                                      (some (false, ())))
                                    (some (false, ())))
                                  (some (false, ())))
                                (Option.bind (law12_awake ()) fun y46 =>
                                some y46)))
                            (some (false, ())))
                          (some (false, ())))
                        (some (false, ())))
                      (some (false, ())))
                    (some (false, ())))
                  (some (false, ()))))
              (some (false, ())))
            (some (false, ())))))
noncomputable def law12_CondTells_c : Ctr := ⟨(.cons (.int .i64) (.cons (.lst t_easementref08_Pair) (.cons (.int .i64) .nil))), (.cons .bool .nil), law12_CondTells, none⟩
theorem law12_CondTells_ok : CtrOK Try.prog 7 law12_CondTells_c := fun_E k86 Try.func7 k86s (by kernel_rfl) (fun x => by kernel_rfl)
end Go.XD

