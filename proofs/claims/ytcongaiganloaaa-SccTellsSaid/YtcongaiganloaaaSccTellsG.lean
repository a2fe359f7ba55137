/- For every input the law SccTells returns true, and its arguments read as they did: no condition. -/
import Derived.Shelf.Sort.Plain
import Derived.Shelf.Slices.In.SortNone
import Derived.Shelf.Slices.CompactI
import Derived.Test.YtcongaiganloaaaProg
import Derived.KernelRfl
import Derived.Test.YtcongaiganloaaaJe
set_option linter.unusedVariables false
set_option linter.unusedSimpArgs false
set_option linter.unusedSectionVars false
set_option linter.unnecessarySimpa false
set_option linter.deprecated false
set_option maxRecDepth 100000
/- slices.Sort of whole numbers, by the library's own contract. -/
namespace Go.XD
open Go.Sort Go.Proofs

section
variable {P : Program} {F : Fm} {B : Nat → Prop} {S : St} {γ : Gam} {W W' : World}

/-- New blocks behind the heap. -/
theorem Hp.grow (hp : Hp F B S γ W) (os : Array Obj) (h1 : W'.heap = W.heap ++ os) (ho : W'.os = W.os) (ht : W'.tape = W.tape) (hout : W'.output = W.output) : Stp F B S γ W S γ W' ∧ Hp F B S γ W' := by
  have hold : ∀ b, b < W.heap.size → W'.heap[b]? = W.heap[b]? := fun b hb => by rw [h1, Array.getElem?_append_left hb]
  have hst : Stp F B S γ W S γ W' := ⟨fun id _ ob h => ⟨ob, h, like_refl _, rfl⟩, ho, ht, hout, by rw [h1]; simp, fun b hb _ => hold b hb, fun b h => .inl h⟩
  exact ⟨hst, hst.hp hp (fun _ h => h) (fun id ob ho => hst.ob hp ho rfl (fun g c hg => hold g (hp.blt ho hg))) hp.inj hp.nd hp.obsB⟩

theorem Hp.ext' {B : Nat → Prop} {S S' : St} {γ : Gam} {W : World} (hp : Hp F B S γ W) (h : ∀ id, S'.get id = S.get id) : Hp F B S' γ W := by
  have e1 : S'.get = S.get := funext h
  have e2 : tracked S' γ = tracked S γ := by funext b; unfold tracked; rw [e1]
  have e3 : Frz F S' γ W = Frz F S γ W := by funext b; unfold Frz; rw [e2]
  exact ⟨by rw [e1, e3]; exact hp.obs, by rw [e1]; exact hp.inj, by rw [e1]; exact hp.nd, by rw [e2]; exact hp.trk, hp.kept, by rw [e1]; exact hp.obsB⟩
@[simp] theorem srt_len (l : List Int) : (srt l).length = l.length := by simp [srt]
theorem sort_write (hp : Hp F B S γ W) {id g c : Nat} {xs : List Int} {vs : Array Value} {t : TypeId} (hg : S.get id = some (.buf (.int .i64) xs)) (e1 : γ id = [(g, c)]) (e3 : W.heap[g]? = some (.cells vs t (0, 0))) (e4 : xs.length ≤ c) (e5 : c * (Ty.int .i64).cells ≤ vs.size) (e6 : xs.length ≤ 140737488355328) (e7 : RepL W.cell? (Frz F S γ W) (.int .i64) xs (fun j => vs[j]?))
    (n m : Nat) (os : Array Obj) : Stp F B S γ W ⟨n, (id, some (.buf (.int .i64) (srt xs))) :: S.m⟩ γ (Sort.grow (putRow (Value.int .i64) (Sort.ahead W m) g 0 (srt xs).toArray) os) ∧
      Hp F B ⟨n, (id, some (.buf (.int .i64) (srt xs))) :: S.m⟩ γ (Sort.grow (putRow (Value.int .i64) (Sort.ahead W m) g 0 (srt xs).toArray) os) := by
  have hgl : g < W.heap.size := hp.blt hg (by rw [e1]; exact List.mem_cons_self)
  have e5' : c ≤ vs.size := by simpa [Ty.cells] using e5
  have hfit : ∀ x ∈ srt xs, fits .i64 x := fun x hx => by
    have hx' : x ∈ xs := by simpa [srt] using hx
    obtain ⟨i, hi, rfl⟩ := List.getElem_of_mem hx'
    exact (e7 i xs[i] (List.getElem?_eq_getElem hi)).2
  have h0 := hp.write (W' := putRow (Value.int .i64) (Sort.ahead W m) g 0 (srt xs).toArray) n (ob' := .buf (.int .i64) (srt xs)) (vs' := putCells (Value.int .i64) 0 (srt xs).toArray vs) (t := t) hg e1 (by simp [like]) (by
      simp only [putRow, mapBlock, Sort.ahead]
      rw [Array.getElem?_modify, if_pos rfl, e3]
      rfl) (fun b hb => by
      simp only [putRow, mapBlock, Sort.ahead]
      rw [Array.getElem?_modify, if_neg (Ne.symm hb)]) (by simp [putRow, mapBlock, Sort.ahead]) rfl rfl rfl (by
      refine ⟨by simpa using e4, by simpa [putCells, Ty.cells] using e5', by simpa using e6, fun i x hx => ?_⟩
      have hi : i < xs.length := by
        have : i < (srt xs).length := by
          rcases Nat.lt_or_ge i (srt xs).length with h | h
          · exact h
          · rw [List.getElem?_eq_none h] at hx; cases hx
        simpa using this
      refine ⟨?_, hfit x (List.mem_of_getElem? hx)⟩
      have hx2 : (srt xs).toArray[i]! = x := by
        simp [getElem!_def, hx]
      simp only [putCells, Ty.cells, Nat.mul_one, Nat.add_zero]
      rw [Array.getElem?_mapIdx]
      have hiv : i < vs.size := by omega
      rw [Array.getElem?_eq_getElem hiv]
      simp only [Option.map_some, Nat.zero_le, true_and, List.size_toArray, srt_len, Nat.zero_add, hi, if_true, Nat.sub_zero, hx2])
  obtain ⟨k1, k2⟩ := h0
  obtain ⟨k3, k4⟩ := k2.grow (W' := Sort.grow (putRow (Value.int .i64) (Sort.ahead W m) g 0 (srt xs).toArray) os) os rfl rfl rfl rfl
  exact ⟨k1.trans k3, k4⟩


theorem hp_ins {fid : Nat} (hp : Hp F B S γ W) : Hp F (ins B fid) S γ W := hp.mono fun id h => .inl h
theorem sort_ok {ρ : Go.Shelf.Ren} (Ly : Lays.n189 P ρ) {fn : Func} (h1 : P.funcs[ρ.f 189]? = some fn) (h2 : (fn.name == "runtime.NumGoroutine") = false) (h3 : fn.body.isNone = false) : NatOK P (ρ.f 189) 0 := by
  refine ⟨⟨fn, h1, h2, h3⟩, fun {F B S γ W fid d v r} hp hf hv h => ?_⟩
  have tup : ∀ {c : Addr → Option Value} {G : Nat → Prop} {look : Nat → Option Ob} {γ' : Gam}, RepD c G look γ' (.tup []) (.tuple #[]) := by
    intros
    simp only [RepD]
    exact ⟨[], rfl, by simp only [RepDs]⟩
  cases d with
  | nils =>
    simp only [natR, Option.some.injEq] at h
    subst h
    simp only [RepD] at hv
    subst hv
    refine Calls.mono (Any.slices_Sort_int_none Ly none 0 W) ?_
    rintro e W' ⟨rfl, rfl⟩
    exact ⟨_, γ, rfl, Stp.refl F _ S γ _, hp_ins hp, tup, trivial⟩
  | sf id =>
    have hv' := hv
    simp only [RepD] at hv'
    obtain ⟨_, hv'⟩ := hv'
    simp only [natR] at h
    cases hg : S.get id with
    | none => rw [hg] at h; simp at h
    | some ob =>
      cases ob with
      | cells ds => rw [hg] at h; simp at h
      | arr _ _ _ => rw [hg] at h; simp at h
      | opt _ _ => rw [hg] at h; simp at h
      | mp _ _ _ _ => rw [hg] at h; simp at h
      | bh _ _ _ _ _ => rw [hg] at h; simp at h
      | buf e xs =>
        rw [hg] at hv' h
        simp only at hv' h
        by_cases he : e = .int .i64
        · subst he
          have hc : castT (.lst (.int .i64)) (.lst (.int .i64)) xs = some xs := by simp [castT]
          rw [hc] at h
          simp only [Option.some.injEq] at h
          subst h
          rcases hv' with ⟨g, c, r1, rfl⟩ | ⟨r1, a0, rfl⟩
          · rcases hp.obs id _ hg with ⟨q1, rfl⟩ | ⟨g', c', cur, tt, q1, q2, q3, q4, q5, q6⟩
            · first | exact (hd_ne r1 q1).elim | exact (hd_ne' r1 q1).elim
            · have q1h := hd_one q1
              rw [r1] at q1h
              simp only [Option.some.injEq, Prod.mk.injEq] at q1h
              obtain ⟨rfl, rfl⟩ := q1h
              have hgl : g < W.heap.size := hp.blt hg (hd_mem r1)
              have q4' : c ≤ cur.size := by simpa [Ty.cells] using q4
              refine Calls.mono (Any.slices_Sort_int Ly g 0 c xs W (fun j hj => ?_) hgl (by omega)) ?_
              · have hj' : j < xs.length := by simpa using hj
                have := (q6 j xs[j] (List.getElem?_eq_getElem hj')).1
                simp only [Ty.cells, Nat.mul_one, Nat.add_zero] at this
                refine ⟨?_, ?_⟩
                · simp only [World.cell?, q2]
                  rw [Nat.zero_add, this]
                  simp [getElem!_def, hj']
                · simp [World.frozen?, q2]
              · rintro e W' ⟨rfl, n, os, rfl⟩
                obtain ⟨k1, k2⟩ := sort_write hp hg q1 q2 q3 q4 q5 q6 S.nx n os
                exact ⟨_, γ, rfl, k1, hp_ins k2, tup, trivial⟩
          · rcases hp.obs id _ hg with ⟨q1, rfl⟩ | ⟨g', c', cur, tt, q1, _⟩
            · refine Calls.mono (Any.slices_Sort_int_none Ly a0 0 W) ?_
              rintro e W' ⟨rfl, rfl⟩
              have hext : ∀ k, St.get ⟨S.nx, (id, some (.buf (.int .i64) (srt []))) :: S.m⟩ k = S.get k := fun k => by
                have hsr : srt [] = [] := by simp [srt]
                rw [hsr, get_cons]
                by_cases e : id = k
                · subst e
                  rw [if_pos rfl]
                  exact hg.symm
                · rw [if_neg e]
                  rfl
              exact ⟨_, γ, rfl, (Stp.refl F _ S γ _).ext (fun _ => rfl) hext, hp_ins (hp.ext' hext), tup, trivial⟩
            · first | exact (hd_ne r1 q1).elim | exact (hd_ne' r1 q1).elim
        · simp [castT, he] at h
  | _ => simp [natR] at h

/-! ### slices.Compact -/
theorem cpt_len (l : List Int) : (cpt l).length ≤ l.length := by
  unfold cpt Lib.compact Lib.compactUpTo
  rw [List.length_map]
  exact Nat.le_trans (List.length_filter_le _ _) (by simp)
theorem cpt_mem {l : List Int} {x : Int} (h : x ∈ cpt l) : x ∈ l := by
  unfold cpt Lib.compact Lib.compactUpTo at h
  obtain ⟨i, hi, rfl⟩ := List.mem_map.1 h
  have := List.mem_range.1 (List.mem_filter.1 hi).1
  simp [getElem!_def, this]
theorem compact_ok {ρ : Go.Shelf.Ren} (Ly : Lays2.n20 P ρ) {fn : Func} (h1 : P.funcs[ρ.f 20]? = some fn) (h2 : (fn.name == "runtime.NumGoroutine") = false) (h3 : fn.body.isNone = false) : NatOK P (ρ.f 20) 1 := by
  refine ⟨⟨fn, h1, h2, h3⟩, fun {F B S γ W fid d v r} hp hf hv h => ?_⟩
  cases d with
  | nils =>
    simp only [natR, Option.some.injEq] at h
    subst h
    simp only [RepD] at hv
    subst hv
    refine Calls.mono (Any.slices_Compact_int_empty Ly none 0 W) ?_
    rintro e W' ⟨rfl, rfl⟩
    exact ⟨_, γ, rfl, Stp.refl F _ S γ _, hp_ins hp, by simp only [RepD], trivial⟩
  | sf id =>
    have hv' := hv
    simp only [RepD] at hv'
    obtain ⟨_, hv'⟩ := hv'
    simp only [natR] at h
    cases hg : S.get id with
    | none => rw [hg] at h; simp at h
    | some ob =>
      cases ob with
      | cells ds => rw [hg] at h; simp at h
      | arr _ _ _ => rw [hg] at h; simp at h
      | opt _ _ => rw [hg] at h; simp at h
      | mp _ _ _ _ => rw [hg] at h; simp at h
      | bh _ _ _ _ _ => rw [hg] at h; simp at h
      | buf e xs =>
        rw [hg] at hv' h
        simp only at hv' h
        by_cases he : e = .int .i64
        · subst he
          have hc : castT (.lst (.int .i64)) (.lst (.int .i64)) xs = some xs := by simp [castT]
          rw [hc] at h
          simp only [Option.some.injEq] at h
          subst h
          rcases hv' with ⟨g, c, r1, rfl⟩ | ⟨r1, a0, rfl⟩
          · rcases hp.obs id _ hg with ⟨q1, rfl⟩ | ⟨g', c', cur, tt, q1, q2, q3, q4, q5, q6⟩
            · first | exact (hd_ne r1 q1).elim | exact (hd_ne' r1 q1).elim
            · have q1h := hd_one q1
              rw [r1] at q1h
              simp only [Option.some.injEq, Prod.mk.injEq] at q1h
              obtain ⟨rfl, rfl⟩ := q1h
              have hgl : g < W.heap.size := hp.blt hg (hd_mem r1)
              have q4' : c ≤ cur.size := by simpa [Ty.cells] using q4
              have hcl := cpt_len xs
              refine Calls.mono (Any.slices_Compact_int Ly g 0 c xs W (fun j hj => ?_) (by omega) q3) ?_
              · have hj' : j < xs.length := by simpa using hj
                have := (q6 j xs[j] (List.getElem?_eq_getElem hj')).1
                simp only [Ty.cells, Nat.mul_one, Nat.add_zero] at this
                refine ⟨?_, ?_⟩
                · simp only [World.cell?, q2]
                  rw [Nat.zero_add, this]
                  simp [getElem!_def, hj']
                · simp [World.frozen?, q2]
              · rintro e W' ⟨rfl, n, rfl⟩
                obtain ⟨k1, k2⟩ := hp.move (fid := fid) hf S.nx (e := .int .i64) (xs := cpt xs) (W' := putRow (Value.int .i64) (Sort.ahead W n) g 0 (Lib.compact xs ++ List.replicate (xs.length - (Lib.compact xs).length) 0).toArray) (vs' := putCells (Value.int .i64) 0 (Lib.compact xs ++ List.replicate (xs.length - (Lib.compact xs).length) 0).toArray cur) (t := tt) hg q1 (by
                  simp only [putRow, mapBlock, Sort.ahead]
                  rw [Array.getElem?_modify, if_pos rfl, q2]
                  rfl) (fun b hb => by
                  simp only [putRow, mapBlock, Sort.ahead]
                  rw [Array.getElem?_modify, if_neg (Ne.symm hb)]) (by simp [putRow, mapBlock, Sort.ahead]) rfl rfl rfl (by
                  refine ⟨by omega, by simpa [putCells, Ty.cells] using q4', by omega, fun i x hx => ?_⟩
                  have hi : i < (cpt xs).length := by
                    rcases Nat.lt_or_ge i (cpt xs).length with h | h
                    · exact h
                    · rw [List.getElem?_eq_none h] at hx; cases hx
                  have hxm : x ∈ xs := cpt_mem (List.mem_of_getElem? hx)
                  refine ⟨?_, by
                    obtain ⟨i, hi, rfl⟩ := List.getElem_of_mem hxm
                    exact (q6 i xs[i] (List.getElem?_eq_getElem hi)).2⟩
                  have hcl' : (Lib.compact xs).length ≤ xs.length := hcl
                  have hi' : i < (Lib.compact xs).length := hi
                  have hx2 : (Lib.compact xs ++ List.replicate (xs.length - (Lib.compact xs).length) 0).toArray[i]! = x := by
                    have : (Lib.compact xs)[i]? = some x := hx
                    simp [getElem!_def, List.getElem?_append_left hi', this]
                  simp only [putCells, Ty.cells, Nat.mul_one, Nat.add_zero]
                  rw [Array.getElem?_mapIdx]
                  have hiv : i < cur.size := by omega
                  rw [Array.getElem?_eq_getElem hiv]
                  have hsz2 : (Lib.compact xs ++ List.replicate (xs.length - (Lib.compact xs).length) 0).toArray.size = xs.length := by simp; omega
                  simp only [Option.map_some, Nat.zero_le, true_and, hsz2, Nat.zero_add, show i < xs.length from by omega, if_true, Nat.sub_zero, hx2])
                exact ⟨_, _, rfl, k1, k2, by
                  simp only [RepD]
                  show _ ∧ _
                  rw [List.cons_append, get_cons, if_pos rfl]
                  exact ⟨rfl, .inl ⟨g, c, updG_hd _ _ _, rfl⟩⟩, .inr rfl⟩
          · rcases hp.obs id _ hg with ⟨q1, rfl⟩ | ⟨g', c', cur, tt, q1, _⟩
            · obtain ⟨k1, k2⟩ := hp.allocNone (fid := fid) hf S.nx (.int .i64)
              have hp2 := k2.sub ⟨S.nx, (fid, some (.buf (.int .i64) (cpt []))) :: (id, none) :: S.m⟩ (fun k ob hk => by
                have hsr : cpt [] = [] := rfl
                rw [hsr, get_cons] at hk
                rw [get_cons]
                by_cases e : fid = k
                · rw [if_pos e] at hk ⊢
                  exact hk
                · rw [if_neg e, getM_cons] at hk
                  rw [if_neg e]
                  by_cases e2 : id = k
                  · rw [if_pos e2] at hk; cases hk
                  · rw [if_neg e2] at hk; exact hk)
              refine Calls.mono (Any.slices_Compact_int_empty Ly a0 0 W) ?_
              rintro e W' ⟨rfl, rfl⟩
              exact ⟨_, _, rfl, k1.trans (hp2.1.weak fun id h => .inl h), hp2.2, by
                simp only [RepD]
                rw [List.cons_append, get_cons, if_pos rfl]
                exact ⟨rfl, .inr ⟨updG_hd0 _ _, a0, rfl⟩⟩, .inr rfl⟩
            · first | exact (hd_ne r1 q1).elim | exact (hd_ne' r1 q1).elim
        · simp [castT, he] at h
  | _ => simp [natR] at h
theorem frz_eq {S' : St} {id : Nat} (h : ∀ k, S'.get k = if k = id then none else S.get k) : Frz F (froS S [id]) γ W = Frz F S' γ W := by
  have e : ∀ b, tracked (froS S [id]) γ b ↔ tracked S' γ b := fun b => by
    constructor
    · rintro ⟨k, ob, c, h1, h2⟩
      rw [froS_get] at h1
      split at h1
      · cases h1
      · rename_i hn
        cases hk : S.get k with
        | none => rw [hk] at h1; simp at h1
        | some ob' => exact ⟨k, ob', c, by rw [h, if_neg (by simpa using hn)]; exact hk, h2⟩
    · rintro ⟨k, ob, c, h1, h2⟩
      rw [h] at h1
      split at h1
      · cases h1
      · rename_i hn
        exact ⟨k, froOb S.get [id] ob, c, by rw [froS_get, if_neg (by simpa using hn), h1]; rfl, h2⟩
  funext b
  unfold Frz
  rw [e b]
theorem sf_frz (hp : Hp F B S γ W) {id : Nat} {e : Ty} {xs : List e.T} {v : Value} (hb : B id) (hg : S.get id = some (.buf e xs)) (hv : RepD W.cell? (Frz F S γ W) S.get γ (.sf id) v) {S' : St} (h : ∀ k, S'.get k = if k = id then none else S.get k) (get : Nat → Option Ob) (γ' : Gam) :
    RepD W.cell? (Frz F S' γ W) get γ' (.fz (.lst e) xs) v := by
  have k := fro_rep hp [id] (d := .sf id) hb hv
  rw [frz_eq h] at k
  simp only [fro, hg] at k
  rw [show [id].any id.beq = true from by simp only [List.any_cons, List.any_nil, Bool.or_false]; exact Nat.beq_refl id] at k
  simp only [RepD] at k ⊢
  exact k
theorem compactF_ok {n : FuncId} (h : NatOK P n 1) : NatOK P n 2 := by
  refine ⟨h.1, fun {F B S γ W fid d v r} hp hf hv hr => ?_⟩
  cases d with
  | nils =>
    simp only [natR, Option.some.injEq] at hr
    subst hr
    exact h.2 hp hf hv (r := ⟨true, .nils, []⟩) rfl
  | sf id =>
    simp only [natR] at hr
    cases hg : S.get id with
    | none => rw [hg] at hr; simp at hr
    | some ob =>
      cases ob with
      | cells ds => rw [hg] at hr; simp at hr
      | arr _ _ _ => rw [hg] at hr; simp at hr
      | opt _ _ => rw [hg] at hr; simp at hr
      | mp _ _ _ _ => rw [hg] at hr; simp at hr
      | bh _ _ _ _ _ => rw [hg] at hr; simp at hr
      | buf e xs =>
        rw [hg] at hr
        simp only at hr
        cases hc : castT (.lst (.int .i64)) (.lst e) xs with
        | none => rw [hc] at hr; simp at hr
        | some ys =>
          rw [hc] at hr
          simp only [Option.some.injEq] at hr
          subst hr
          refine (h.2 hp hf hv (r := ⟨true, .sf fid, [(fid, some (.buf (.int .i64) (cpt ys))), (id, none)]⟩) (by simp only [natR]; rw [hg]; simp only; rw [hc])).mono ?_
          rintro e' W' ⟨u, γ', rfl, k1, k2, k3, k4⟩
          have hn : S.get fid = none := by
            cases hh : S.get fid with
            | none => rfl
            | some ob => exact absurd (hp.obsB fid ob hh).1 hf
          have hS : ∀ k, St.get ⟨S.nx, [(id, none)] ++ S.m⟩ k = if k = fid then none else St.get ⟨S.nx, [(fid, some (.buf (.int .i64) (cpt ys))), (id, none)] ++ S.m⟩ k := fun k => by
            simp only [List.cons_append, List.nil_append]
            rw [get_cons, get_cons, getM_cons]
            by_cases e1 : k = fid
            · subst e1
              rw [if_pos rfl]
              split
              · rfl
              · exact hn
            · rw [if_neg e1, if_neg (Ne.symm e1)]
          have hp2 := k2.sub ⟨S.nx, [(id, none)] ++ S.m⟩ (fun k ob hk => by
            rw [hS] at hk
            split at hk
            · cases hk
            · exact hk)
          exact ⟨u, γ', rfl, k1.trans (hp2.1.weak fun id h => .inl h), hp2.2, sf_frz k2 (.inr rfl) (by rw [List.cons_append, get_cons, if_pos rfl]) k3 hS _ _, trivial⟩
  | _ => simp [natR] at hr
end
end Go.XD


/- A function of the library is in the program. -/
namespace Go.XD
open Go.Proofs Go.Shelf

def ren189 : Go.Shelf.Ren := ⟨fun | 125 => 68 | 128 => 81 | 129 => 82 | 189 => 58 | 215 => 89 | 216 => 78 | 257 => 67 | 294 => 72 | 295 => 73 | 296 => 74 | 297 => 75 | 298 => 76 | 299 => 77 | 300 => 79 | 301 => 80 | 328 => 84 | 329 => 85 | 330 => 86 | 331 => 87 | 332 => 88 | 343 => 90 | n => n, fun | 0 => 0 | 3 => 3 | 4 => 4 | 5 => 5 | 9 => 9 | 28 => 35 | 46 => 116 | 51 => 127 | 53 => 129 | 131 => 30 | 182 => 120 | 183 => 121 | 218 => 130 | 222 => 134 | 228 => 136 | 229 => 137 | n => n, fun n => n⟩
theorem lays189 : Lays.n189 Try.prog ren189 where
  mixed := by kernel_rfl
  f125 := Try.func68.trans (congrArg some (by kernel_rfl))
  f128 := Try.func81.trans (congrArg some (by kernel_rfl))
  f129 := Try.func82.trans (congrArg some (by kernel_rfl))
  f189 := Try.func58.trans (congrArg some (by kernel_rfl))
  f215 := Try.func89.trans (congrArg some (by kernel_rfl))
  f216 := Try.func78.trans (congrArg some (by kernel_rfl))
  f257 := Try.func67.trans (congrArg some (by kernel_rfl))
  f294 := Try.func72.trans (congrArg some (by kernel_rfl))
  f295 := Try.func73.trans (congrArg some (by kernel_rfl))
  f296 := Try.func74.trans (congrArg some (by kernel_rfl))
  f297 := Try.func75.trans (congrArg some (by kernel_rfl))
  f298 := Try.func76.trans (congrArg some (by kernel_rfl))
  f299 := Try.func77.trans (congrArg some (by kernel_rfl))
  f300 := Try.func79.trans (congrArg some (by kernel_rfl))
  f301 := Try.func80.trans (congrArg some (by kernel_rfl))
  f328 := Try.func84.trans (congrArg some (by kernel_rfl))
  f329 := Try.func85.trans (congrArg some (by kernel_rfl))
  f330 := Try.func86.trans (congrArg some (by kernel_rfl))
  f331 := Try.func87.trans (congrArg some (by kernel_rfl))
  f332 := Try.func88.trans (congrArg some (by kernel_rfl))
  f343 := Try.func90.trans (congrArg some (by kernel_rfl))
  t0 := Try.underlying0
  a0 := Try.isAgg0
  z0 := Try.sizeOf0
  v0 := Try.zeroValue0
  t3 := Try.underlying3
  a3 := Try.isAgg3
  z3 := Try.sizeOf3
  v3 := Try.zeroValue3
  t4 := Try.underlying4
  a4 := Try.isAgg4
  z4 := Try.sizeOf4
  v4 := Try.zeroValue4
  t5 := Try.underlying5
  a5 := Try.isAgg5
  z5 := Try.sizeOf5
  v5 := Try.zeroValue5
  t9 := Try.underlying9
  a9 := Try.isAgg9
  z9 := Try.sizeOf9
  v9 := Try.zeroValue9
  t28 := Try.underlying35
  a28 := Try.isAgg35
  z28 := Try.sizeOf35
  v28 := Try.zeroValue35
  t46 := Try.underlying116
  a46 := Try.isAgg116
  z46 := Try.sizeOf116
  v46 := Try.zeroValue116
  t51 := Try.underlying127
  a51 := Try.isAgg127
  z51 := Try.sizeOf127
  v51 := Try.zeroValue127
  t53 := Try.underlying129
  a53 := Try.isAgg129
  z53 := Try.sizeOf129
  v53 := Try.zeroValue129
  t131 := Try.underlying30
  a131 := Try.isAgg30
  z131 := Try.sizeOf30
  v131 := Try.zeroValue30
  t182 := Try.underlying120
  a182 := Try.isAgg120
  z182 := Try.sizeOf120
  v182 := Try.zeroValue120
  t183 := Try.underlying121
  a183 := Try.isAgg121
  z183 := Try.sizeOf121
  v183 := Try.zeroValue121
  t218 := Try.underlying130
  a218 := Try.isAgg130
  z218 := Try.sizeOf130
  v218 := Try.zeroValue130
  t222 := Try.underlying134
  a222 := Try.isAgg134
  z222 := Try.sizeOf134
  v222 := Try.zeroValue134
  t228 := Try.underlying136
  a228 := Try.isAgg136
  z228 := Try.sizeOf136
  v228 := Try.zeroValue136
  t229 := Try.underlying137
  a229 := Try.isAgg137
  z229 := Try.sizeOf137
  v229 := Try.zeroValue137
theorem S189_ok : NatOK Try.prog 58 0 := sort_ok lays189 (fn := Try.f58) Try.func58 (by kernel_rfl) (by kernel_rfl)
end Go.XD


namespace Go.XD
open Go.Proofs

abbrev t_easementref08_Pair : Ty := (.st (.cons (.int .i64) (.cons (.int .i64) .nil)))
abbrev V_easementref08_Pair : Type := (Int × Int × Unit)
abbrev t_graph_Graph : Ty := (.st (.cons (.int .i64) (.cons (.lst t_easementref08_Pair) (.cons (.lst (.int .i32)) (.cons (.lst (.int .i32)) (.cons (.lst (.int .i32)) (.cons (.lst (.int .i32)) .nil)))))))
abbrev V_graph_Graph : Type := (Int × (List V_easementref08_Pair) × (List Int) × (List Int) × (List Int) × (List Int) × Unit)
abbrev t_point_Points : Ty := (.st (.cons (.lst (.int .i64)) .nil))
abbrev V_point_Points : Type := ((List Int) × Unit)
abbrev t_tick_Counter : Ty := (.st (.cons (.int .i64) (.cons (.int .i64) (.cons (.int .i64) (.cons (.int .i64) (.cons (.int .i64) (.cons (.int .i64) (.cons (.int .i64) .nil))))))))
abbrev V_tick_Counter : Type := (Int × Int × Int × Int × Int × Int × Int × Unit)
abbrev t_scc_call : Ty := (.st (.cons (.int .i64) (.cons (.lst (.int .i64)) .nil)))
abbrev V_scc_call : Type := (Int × (List Int) × Unit)
abbrev t_scc_finder : Ty := (.st (.cons (.ptr (.cons (.int .i64) (.cons (.lst t_easementref08_Pair) (.cons (.lst (.int .i32)) (.cons (.lst (.int .i32)) (.cons (.lst (.int .i32)) (.cons (.lst (.int .i32)) .nil))))))) (.cons (.lst (.int .i64)) (.cons (.lst (.int .i64)) (.cons (.lst (.int .i64)) (.cons (.lst (.int .i64)) (.cons (.lst t_scc_call) (.cons (.lst (.lst (.int .i64))) (.cons (.int .i64) .nil)))))))))
abbrev V_scc_finder : Type := ((Option V_graph_Graph) × (List Int) × (List Int) × (List Int) × (List Int) × (List V_scc_call) × (List (List Int)) × Int × Unit)
abbrev t_scc_least : Ty := (.st (.cons (.lst (.lst (.int .i64))) (.cons (.lst (.int .i64)) .nil)))
abbrev V_scc_least : Type := ((List (List Int)) × (List Int) × Unit)
abbrev t_easementref22_Point : Ty := (.st (.cons (.int .i64) (.cons (.int .i64) (.cons .bool .nil))))
abbrev V_easementref22_Point : Type := (Int × Int × Bool × Unit)
abbrev t_scc_Parts : Ty := (.st (.cons (.lst (.int .i64)) (.cons (.lst (.lst (.int .i64))) .nil)))
abbrev V_scc_Parts : Type := ((List Int) × (List (List Int)) × Unit)
abbrev T1 : Type := (((Bool × Unit) × Unit) × (List Int) × (List V_easementref08_Pair) × Int × Int × Unit)
abbrev T2 : Type := (((Bool × Unit) × Unit) × (List Int) × (List Int) × (List V_easementref08_Pair) × Int × Int × Unit)
abbrev T3 : Type := ((((Bool × Unit) × Unit) × (List Int) × (List Int) × Unit) ⊕ Empty)
abbrev T4 : Type := ((List V_easementref08_Pair) × (List V_easementref08_Pair) × Int × Unit)
abbrev T5 : Type := ((V_scc_finder × V_scc_call × Unit) ⊕ ((V_scc_finder × V_scc_call × Unit) ⊕ Empty))
abbrev T6 : Type := (V_graph_Graph × (List V_easementref08_Pair) × Int × Int × Unit)
abbrev T7 : Type := (V_easementref08_Pair × (List Int) × (List Int) × Bool × Unit)
abbrev T8 : Type := ((V_easementref08_Pair × (List Int) × (List Int) × Unit) ⊕ Empty)
abbrev T9 : Type := ((Option V_graph_Graph) × (List Int) × (List Int) × Int × Int × Unit)
abbrev T10 : Type := (V_scc_least × Unit × (List Int) × (List Int) × Int × (List Int) × Int × Int × Unit)
abbrev T11 : Type := (V_scc_Parts × V_scc_least × Unit × (List Int) × (List Int) × (Option V_graph_Graph) × Int × (List Int) × Int × Int × Unit)
abbrev T12 : Type := ((V_scc_Parts × V_scc_least × (List Int) × (List Int) × Unit) ⊕ Empty)
abbrev T13 : Type := (V_scc_Parts × V_scc_least × (List (List Int)) × Unit × (List Int) × (List Int) × (Option V_graph_Graph) × Unit)
abbrev T15 : Type := ((List V_easementref08_Pair) × (List Int) × Bool × Int × Unit)
abbrev T16 : Type := ((Bool × V_scc_Parts × Unit) ⊕ ((V_scc_Parts × Unit) ⊕ Empty))
abbrev T17 : Type := (V_scc_Parts × Int × (List V_easementref08_Pair) × (List Int) × Int × Unit)
abbrev T18 : Type := ((Bool × V_scc_Parts × (List Int) × Unit) ⊕ ((V_scc_Parts × (List Int) × Unit) ⊕ Empty))
abbrev T19 : Type := (V_scc_Parts × Int × (List V_easementref08_Pair) × Int × Int × Unit)
abbrev T20 : Type := ((Bool × V_scc_Parts × Unit) ⊕ ((Int × V_scc_Parts × Unit) ⊕ Empty))
abbrev T21 : Type := (V_scc_Parts × V_scc_Parts × V_scc_Parts × Int × Int × Int × Int × Unit)
abbrev T22 : Type := ((Bool × V_scc_Parts × V_scc_Parts × V_scc_Parts × Unit) ⊕ ((V_scc_Parts × V_scc_Parts × V_scc_Parts × Unit) ⊕ Empty))
abbrev T23 : Type := (V_scc_Parts × V_scc_Parts × V_scc_Parts × Int × Int × Int × Unit)
abbrev T26 : Type := (V_tick_Counter × V_scc_least × (List Int) × (List Int) × Int × (List Int) × Int × Int × Unit)
abbrev T27 : Type := ((V_tick_Counter × V_scc_least × (List Int) × (List Int) × Unit) ⊕ Empty)
abbrev T28 : Type := (V_tick_Counter × V_scc_Parts × V_scc_least × (List Int) × (List Int) × (Option V_graph_Graph) × Int × (List Int) × Int × Int × Unit)
abbrev T29 : Type := ((V_tick_Counter × V_scc_Parts × V_scc_least × (List Int) × (List Int) × Unit) ⊕ Empty)
abbrev T30 : Type := (V_tick_Counter × V_scc_Parts × V_scc_least × (List (List Int)) × (List Int) × (List Int) × (Option V_graph_Graph) × Unit)
abbrev T32 : Type := ((List (List Int)) × (List V_easementref08_Pair) × (List Int) × Int × Int × Unit)
abbrev T34 : Type := (Int × (List V_easementref08_Pair) × (List (List Int)) × (List Int) × Int × Unit)
abbrev T35 : Type := (Int × (List (List Int)) × (List Int) × Int × Int × Int × Unit)
abbrev T36 : Type := (Int × (List V_easementref08_Pair) × (List (List Int)) × (List Int) × Int × Bool × Int × Unit)
abbrev T37 : Type := ((Int × Bool × (List (List Int)) × (List Int) × Unit) ⊕ Empty)
abbrev T38 : Type := (Int × (List V_easementref08_Pair) × (List (List Int)) × (List Int) × Int × Bool × Unit)
abbrev q10 : CP := (.cons (.val (.ptr (.cons (.int .i64) (.cons (.lst t_easementref08_Pair) (.cons (.lst (.int .i32)) (.cons (.lst (.int .i32)) (.cons (.lst (.int .i32)) (.cons (.lst (.int .i32)) .nil)))))))) (.cons (.own (.int .i64)) (.cons (.own (.int .i64)) (.cons (.own (.int .i64)) (.cons (.own (.int .i64)) (.cons (.own t_scc_call) (.cons (.own (.lst (.int .i64))) (.cons (.val (.int .i64)) .nil))))))))
abbrev q14 : CP := (.cons (.ptr 0 (.cons (.val (.int .i64)) (.cons (.val (.lst (.int .i64))) .nil))) (.cons (.val .bool) (.cons (.ptr 5 q10) .nil)))
abbrev q15 : CP := (.cons (.val (.int .i64)) (.cons (.val .bool) (.cons (.ptr 3 q10) .nil)))
abbrev q18 : CP := (.cons (.ptr 0 q10) (.cons (.ptr 0 (.cons (.val (.int .i64)) (.cons (.val (.lst (.int .i64))) .nil))) .nil))
abbrev q21 : CP := (.cons (.val (.lst (.lst (.int .i64)))) (.cons (.own (.int .i64)) .nil))
abbrev q22 : CP := (.cons (.ptr 0 q21) (.cons (.val (.int .i64)) (.cons (.val (.int .i64)) .nil)))
abbrev q23 : CP := (.cons (.val (.int .i64)) (.cons (.own t_easementref08_Pair) (.cons (.val (.lst (.int .i32))) (.cons (.val (.lst (.int .i32))) (.cons (.val (.lst (.int .i32))) (.cons (.val (.lst (.int .i32))) .nil))))))
abbrev q26 : CP := (.cons (.ip 98 q21) (.cons (.val (.int .i64)) (.cons (.val (.int .i64)) .nil)))
abbrev q27 : CP := (.cons (.own (.int .i64)) (.cons (.val (.int .i64)) (.cons (.val (.lst (.int .i64))) (.cons (.val (.int .i64)) (.cons (.val (.int .i64)) .nil)))))
abbrev q28 : CP := (.cons (.own (.int .i64)) (.cons (.val (.lst (.lst (.int .i64)))) (.cons (.val (.int .i64)) (.cons (.val (.int .i64)) .nil))))
abbrev q29 : CP := (.cons (.ptr 0 (.cons (.val (.int .i64)) (.cons (.val (.int .i64)) .nil))) (.cons (.own (.int .i64)) (.cons (.own (.int .i64)) (.cons (.val .bool) .nil))))
abbrev q30 : CP := (.cons (.ptr 0 (.cons (.val (.int .i64)) (.cons (.val (.int .i64)) .nil))) (.cons (.own (.int .i64)) (.cons (.own (.int .i64)) .nil)))
abbrev q31 : CP := (.cons (.val (.ptr (.cons (.int .i64) (.cons (.lst t_easementref08_Pair) (.cons (.lst (.int .i32)) (.cons (.lst (.int .i32)) (.cons (.lst (.int .i32)) (.cons (.lst (.int .i32)) .nil)))))))) (.cons (.own (.int .i64)) (.cons (.own (.int .i64)) (.cons (.val (.int .i64)) (.cons (.val (.int .i64)) .nil)))))
abbrev q32 : CP := (.cons (.ptr 0 q21) (.cons (.val (.int .i64)) (.cons (.val .bool) .nil)))
abbrev q33 : CP := (.cons (.ptr 0 q21) (.cons (.own (.int .i64)) (.cons (.val (.int .i64)) (.cons (.val (.int .i64)) .nil))))
abbrev q34 : CP := (.cons (.ptr 0 q21) (.cons (.own (.int .i64)) (.cons (.val (.int .i64)) (.cons (.val .bool) .nil))))
abbrev q38 : CP := (.cons (.ptr 0 (.cons (.own (.int .i64)) (.cons (.own (.lst (.int .i64))) .nil))) (.cons (.ptr 0 q21) (.cons (.own (.int .i64)) (.cons (.own (.int .i64)) .nil))))
abbrev q41 : CP := (.cons (.ptr 0 (.cons (.own (.int .i64)) (.cons (.own (.lst (.int .i64))) .nil))) .nil)
abbrev q42 : CP := (.cons (.ptr 0 q10) (.cons (.val (.int .i64)) (.cons (.val .bool) .nil)))
abbrev q43 : CP := (.cons (.ptr 0 q10) (.cons (.val (.int .i64)) (.cons (.val (.int .i64)) .nil)))
abbrev q46 : CP := (.cons (.ptr 0 (.cons (.own (.int .i64)) (.cons (.own (.lst (.int .i64))) .nil))) (.cons (.val (.int .i64)) .nil))
abbrev q48 : CP := (.cons (.val (.int .i64)) (.cons (.ptr 0 (.cons (.own (.int .i64)) (.cons (.own (.lst (.int .i64))) .nil))) .nil))
abbrev q51 : CP := (.cons (.val .bool) (.cons (.ptr 0 (.cons (.own (.int .i64)) (.cons (.own (.lst (.int .i64))) .nil))) .nil))
abbrev q61 : CP := (.cons (.val .bool) (.cons (.ptr 0 (.cons (.own (.int .i64)) (.cons (.own (.lst (.int .i64))) .nil))) (.cons (.ptr 0 (.cons (.own (.int .i64)) (.cons (.own (.lst (.int .i64))) .nil))) (.cons (.ptr 0 (.cons (.own (.int .i64)) (.cons (.own (.lst (.int .i64))) .nil))) .nil))))
abbrev q62 : CP := (.cons (.ptr 0 (.cons (.own (.int .i64)) (.cons (.own (.lst (.int .i64))) .nil))) (.cons (.ptr 0 (.cons (.own (.int .i64)) (.cons (.own (.lst (.int .i64))) .nil))) (.cons (.ptr 0 (.cons (.own (.int .i64)) (.cons (.own (.lst (.int .i64))) .nil))) .nil)))
abbrev q64 : CP := (.cons (.val (.int .i64)) (.cons (.val (.int .i64)) (.cons (.val (.int .i64)) (.cons (.val (.int .i64)) (.cons (.val (.int .i64)) (.cons (.val (.int .i64)) (.cons (.val (.int .i64)) .nil)))))))
abbrev q69 : CP := (.cons (.ptr 0 q64) (.cons (.ptr 0 (.cons (.own (.int .i64)) (.cons (.own (.lst (.int .i64))) .nil))) (.cons (.ptr 0 q21) (.cons (.own (.int .i64)) (.cons (.own (.int .i64)) .nil)))))
abbrev q72 : CP := (.cons (.ptr 0 (.cons (.own (.int .i64)) (.cons (.own (.lst (.int .i64))) .nil))) (.cons (.ptr 0 q64) .nil))
noncomputable def k0 : FE Try.prog := ⟨[], [], [], [], trivial, trivial, trivial⟩

/-! ### easement/graph.lay$1: function 60, at objects -/
noncomputable def graph_lay_1_p0 (x : (V_easementref08_Pair × (Bool × Unit) × Unit)) : Option ((Int × (Bool × Unit) × Unit) ⊕ Empty) :=
  cond (x.2.1.1)
    (some (.inl (x.1.2.1, x.2)))
    (some (.inl (x.1.1, x.2)))
noncomputable def k1L : LCtr := ⟨[0, 1], (.cons (.val t_easementref08_Pair) (.cons (.ptr 0 (.cons (.val .bool) .nil)) .nil)), [], [], [⟨.ret, [3, 1], (.cons (.val (.int .i64)) (.cons (.ptr 0 (.cons (.val .bool) .nil)) .nil)), [some 0]⟩], fun _ => [], graph_lay_1_p0⟩
noncomputable def graph_lay_1_p0_c : PI := mkPI Try.f60 k1L
theorem graph_lay_1_p0_ok : PIOK Try.prog 60 graph_lay_1_p0_c := proc_E (ls := []) k0 Try.func60 trivial (by kernel_rfl) (fun x => by kernel_rfl)
/-! ### easement/graph.lay: function 49 -/
noncomputable def k2 : FE Try.prog := ⟨[], [(60, [graph_lay_1_p0_c])], [], [], trivial, ⟨⟨graph_lay_1_p0_ok, trivial⟩, trivial⟩, trivial⟩
noncomputable def graph_lay_l8_step (g : T1 → Option ((((Bool × Unit) × Unit) × (List Int) × Unit) ⊕ Empty)) (x : T1) : Option ((((Bool × Unit) × Unit) × (List Int) × Unit) ⊕ Empty) :=
  cond (decide (x.2.2.2.2.1 < x.2.2.2.1))
    (ck (inB x.2.2.2.2.1 (x.2.2.1.length)) <|
    Option.bind (graph_lay_1_p0 (rdL t_easementref08_Pair x.2.2.1 x.2.2.2.2.1, x.1)) fun y1 => out1 y1
      (fun z2 =>
        let v1 := IntKind.i64.wrap (z2.1 + (1 : Int))
        ck (inB v1 (x.2.1.length)) <|
        ck (inB v1 (x.2.1.length)) <|
        g (z2.2, x.2.1.set v1.toNat (IntKind.i32.wrap ((x.2.1.getD v1.toNat (Ty.dflt (.int .i32))) + (1 : Int))), x.2.2.1, x.2.2.2.1, IntKind.i64.wrap (x.2.2.2.2.1 + (1 : Int)), ())))
    (some (.inl (x.1, x.2.1, ())))
noncomputable def k2l1 : LCtr := ⟨[8, 9, 22, 23, 24], (.cons (.clo 60 (.cons (.ptr 0 (.cons (.val .bool) .nil)) .nil)) (.cons (.own (.int .i32)) (.cons (.val (.lst t_easementref08_Pair)) (.cons (.val (.int .i64)) (.cons (.val (.int .i64)) .nil))))), [some 0, some 1], [0, 1, 8, 9], [⟨(.exit 0), [8, 9], (.cons (.clo 60 (.cons (.ptr 0 (.cons (.val .bool) .nil)) .nil)) (.cons (.own (.int .i32)) .nil)), [some 0, some 1]⟩], fun _ => [], lim graph_lay_l8_step⟩
noncomputable def graph_lay_l18_step (g : ((List Int) × Int × Int × Unit) → Option (V_point_Points ⊕ Empty)) (x : ((List Int) × Int × Int × Unit)) : Option (V_point_Points ⊕ Empty) :=
  cond (decide (x.2.2.1 < x.2.1))
    (let v1 := IntKind.i64.wrap (x.2.2.1 + (1 : Int))
    ck (inB v1 (x.1.length)) <|
    ck (inB x.2.2.1 (x.1.length)) <|
    ck (inB v1 (x.1.length)) <|
    g (x.1.set v1.toNat (IntKind.i32.wrap ((x.1.getD v1.toNat (Ty.dflt (.int .i32))) + (x.1.getD x.2.2.1.toNat (Ty.dflt (.int .i32))))), x.2.1, IntKind.i64.wrap (x.2.2.1 + (1 : Int)), ()))
    (some (.inl (x.1, ())))
noncomputable def k2l2 : LCtr := ⟨[9, 38, 39], (.cons (.own (.int .i32)) (.cons (.val (.int .i64)) (.cons (.val (.int .i64)) .nil))), [some 0], [1, 8, 9], [⟨(.exit 2), [9], (.cons (.own (.int .i32)) .nil), [some 0]⟩], fun _ => [], lim graph_lay_l18_step⟩
noncomputable def graph_lay_l32_step (g : T2 → Option T3) (x : T2) : Option T3 :=
  cond (decide (x.2.2.2.2.2.1 < x.2.2.2.2.1))
    (ck (inB x.2.2.2.2.2.1 (x.2.2.2.1.length)) <|
    Option.bind (graph_lay_1_p0 (rdL t_easementref08_Pair x.2.2.2.1 x.2.2.2.2.2.1, x.1)) fun y7 => out1 y7
      (fun z8 =>
        ck (inB z8.1 (x.2.1.length)) <|
        let v1 := x.2.1.getD z8.1.toNat (Ty.dflt (.int .i32))
        ck (inB v1 (x.2.2.1.length)) <|
        ck (inB z8.1 (x.2.1.length)) <|
        ck (inB z8.1 (x.2.1.length)) <|
        g (z8.2, x.2.1.set z8.1.toNat (IntKind.i32.wrap ((x.2.1.getD z8.1.toNat (Ty.dflt (.int .i32))) + (1 : Int))), x.2.2.1.set v1.toNat (IntKind.i32.wrap x.2.2.2.2.2.1), x.2.2.2.1, x.2.2.2.2.1, IntKind.i64.wrap (x.2.2.2.2.2.1 + (1 : Int)), ())))
    (some (.inl (x.1, x.2.1, x.2.2.1, ())))
noncomputable def k2l3 : LCtr := ⟨[8, 13, 14, 59, 60, 61], (.cons (.clo 60 (.cons (.ptr 0 (.cons (.val .bool) .nil)) .nil)) (.cons (.own (.int .i32)) (.cons (.own (.int .i32)) (.cons (.val (.lst t_easementref08_Pair)) (.cons (.val (.int .i64)) (.cons (.val (.int .i64)) .nil)))))), [some 0, some 1, some 2], [9, 14], [⟨(.exit 4), [8, 13, 14], (.cons (.clo 60 (.cons (.ptr 0 (.cons (.val .bool) .nil)) .nil)) (.cons (.own (.int .i32)) (.cons (.own (.int .i32)) .nil))), [some 0, some 1, some 2]⟩], fun _ => [], lim graph_lay_l32_step⟩
theorem k2s : LsOK Try.prog Try.f49.ntmps (codeOf Try.f49) [(32, k2l3), (18, k2l2), (8, k2l1)] := loop_E 32 k2l3 k2 (loop_E 18 k2l2 k2 (loop_E 8 k2l1 k2 trivial (by kernel_rfl) rfl (fun g x => by kernel_rfl)) (by kernel_rfl) rfl (fun g x => by kernel_rfl)) (by kernel_rfl) rfl (fun g x => by kernel_rfl)
noncomputable def graph_lay (x : (Int × (List V_easementref08_Pair) × Bool × Unit)) : Option ((List Int) × (List Int) × Unit) :=
  let v1 := IntKind.i64.wrap (x.1 + (1 : Int))
  ck (decide (0 ≤ v1) && decide (v1 ≤ v1) && decide (v1 * ((6 : Nat) : Int) ≤ 35184372088832)) <|
  Option.bind (lim graph_lay_l8_step ((x.2.2, ()), List.replicate v1.toNat ((0 : Int) : Int), x.2.1, (x.2.1.length : Int), (0 : Int), ())) fun y3 => out1 y3
    (fun z4 =>
      Option.bind (lim graph_lay_l18_step (z4.2.1, x.1, (0 : Int), ())) fun y5 => out1 y5
        (fun z6 =>
          ck (roomB (([] : List Int) ++ z6.1).length 6) <|
          ck (decide (0 ≤ (x.2.1.length : Int)) && decide ((x.2.1.length : Int) ≤ (x.2.1.length : Int)) && decide ((x.2.1.length : Int) * ((6 : Nat) : Int) ≤ 35184372088832)) <|
          Option.bind (lim graph_lay_l32_step (z4.1, ([] : List Int) ++ z6.1, List.replicate (x.2.1.length : Int).toNat ((0 : Int) : Int), x.2.1, (x.2.1.length : Int), (0 : Int), ())) fun y9 => out1 y9
            (fun z10 =>
              some (z10.2.2.1, z6))))
noncomputable def graph_lay_c : Ctr := ⟨(.cons (.int .i64) (.cons (.lst t_easementref08_Pair) (.cons .bool .nil))), (.cons (.lst (.int .i32)) (.cons (.lst (.int .i32)) .nil)), graph_lay, none⟩
theorem graph_lay_ok : CtrOK Try.prog 49 graph_lay_c := fun_E k2 Try.func49 k2s (by kernel_rfl) (fun x => by kernel_rfl)
/-! ### easement/graph.New: function 36 -/
noncomputable def k3 : FE Try.prog := ⟨[(49, graph_lay_c)], [], [], [], ⟨graph_lay_ok, trivial⟩, trivial, trivial⟩
noncomputable def graph_New_l12_step (g : (Int × (List V_easementref08_Pair) × Int × Int × Unit) → Option ((Unit × Int × Unit) ⊕ (Unit ⊕ Empty))) (x : (Int × (List V_easementref08_Pair) × Int × Int × Unit)) : Option ((Unit × Int × Unit) ⊕ (Unit ⊕ Empty)) :=
  cond (decide (x.2.2.2.1 < x.2.2.1))
    (ck (inB x.2.2.2.1 (x.2.1.length)) <|
    let v1 := rdL t_easementref08_Pair x.2.1 x.2.2.2.1
    cond (cond (cond (cond (decide (v1.1 < (0 : Int))) true (decide (v1.1 ≥ x.1))) true (decide (v1.2.1 < (0 : Int)))) true (decide (v1.2.1 ≥ x.1)))
      (some (.inl ((), (7 : Int), ())))
      (g (x.1, x.2.1, x.2.2.1, IntKind.i64.wrap (x.2.2.2.1 + (1 : Int)), ())))
    (some (.inr (.inl ())))
noncomputable def k3l1 : LCtr := ⟨[0, 20, 21, 22], (.cons (.val (.int .i64)) (.cons (.val (.lst t_easementref08_Pair)) (.cons (.val (.int .i64)) (.cons (.val (.int .i64)) .nil)))), [], [0, 1], [⟨.ret, [4, 5], (.cons (.cst true) (.cons (.val (.int .i64)) .nil)), []⟩, ⟨(.exit 1), [], .nil, []⟩], fun _ => [], lim graph_New_l12_step⟩
theorem k3s : LsOK Try.prog Try.f36.ntmps (codeOf Try.f36) [(12, k3l1)] := loop_E 12 k3l1 k3 trivial (by kernel_rfl) rfl (fun g x => by kernel_rfl)
noncomputable def graph_New (x : (Int × (List V_easementref08_Pair) × Unit)) : Option ((Option V_graph_Graph) × Int × Unit) :=
  cond (decide (x.1 < (0 : Int)))
    (some ((none : Option V_graph_Graph), (2 : Int), ()))
    (cond (cond (decide (x.1 > (1048576 : Int))) true (decide ((x.2.1.length : Int) > (67108864 : Int))))
      (some ((none : Option V_graph_Graph), (5 : Int), ()))
      (Option.bind (lim graph_New_l12_step (x.1, x.2.1, (x.2.1.length : Int), (0 : Int), ())) fun y1 => out2 y1
        (fun z2 =>
          some ((none : Option V_graph_Graph), z2.2))
        (fun z3 =>
          let v1 := ([] : List V_easementref08_Pair)
          ck (roomB (v1 ++ x.2.1).length 19) <|
          Option.bind (graph_lay (x.1, v1 ++ x.2.1, false, ())) fun y4 =>
          Option.bind (graph_lay (x.1, v1 ++ x.2.1, true, ())) fun y5 =>
          some (some (x.1, v1 ++ x.2.1, y4.1, y5.1, y4.2.1, y5.2), (0 : Int), ()))))
noncomputable def graph_New_c : Ctr := ⟨(.cons (.int .i64) (.cons (.lst t_easementref08_Pair) .nil)), (.cons (.ptr (.cons (.int .i64) (.cons (.lst t_easementref08_Pair) (.cons (.lst (.int .i32)) (.cons (.lst (.int .i32)) (.cons (.lst (.int .i32)) (.cons (.lst (.int .i32)) .nil))))))) (.cons (.int .i64) .nil)), graph_New, none⟩
theorem graph_New_ok : CtrOK Try.prog 36 graph_New_c := fun_E k3 Try.func36 k3s (by kernel_rfl) (fun x => by kernel_rfl)
/-! ### easement/easementlaw10.Of: function 9 -/
noncomputable def k4 : FE Try.prog := ⟨[(36, graph_New_c)], [], [], [], ⟨graph_New_ok, trivial⟩, trivial, trivial⟩
noncomputable def law10_Of_l6_step (g : T4 → Option (((List V_easementref08_Pair) × Unit) ⊕ Empty)) (x : T4) : Option (((List V_easementref08_Pair) × Unit) ⊕ Empty) :=
  cond (decide (x.2.2.1 < (x.1.length : Int)))
    (ck (inB x.2.2.1 (x.1.length)) <|
    ck (inB x.2.2.1 (x.1.length)) <|
    let v1 := x.2.1 ++ [rdL t_easementref08_Pair x.1 x.2.2.1]
    ck (roomB v1.length 19) <|
    g (x.1, v1, IntKind.i64.wrap (x.2.2.1 + (1 : Int)), ()))
    (some (.inl (x.2.1, ())))
noncomputable def k4l1 : LCtr := ⟨[1, 6, 7], (.cons (.val (.lst t_easementref08_Pair)) (.cons (.own t_easementref08_Pair) (.cons (.val (.int .i64)) .nil))), [none], [0], [⟨(.exit 0), [6], (.cons (.own t_easementref08_Pair) .nil), [none]⟩], fun _ => [], lim law10_Of_l6_step⟩
theorem k4s : LsOK Try.prog Try.f9.ntmps (codeOf Try.f9) [(6, k4l1)] := loop_E 6 k4l1 k4 trivial (by kernel_rfl) rfl (fun g x => by kernel_rfl)
noncomputable def law10_Of (x : (Int × (List V_easementref08_Pair) × Unit)) : Option ((Option V_graph_Graph) × Int × Unit) :=
  Option.bind (lim law10_Of_l6_step (x.2.1, ([] : List V_easementref08_Pair), (0 : Int), ())) fun y1 => out1 y1
    (fun z2 =>
      Option.bind (graph_New (x.1, z2)) fun y3 =>
      some y3)
noncomputable def law10_Of_c : Ctr := ⟨(.cons (.int .i64) (.cons (.lst t_easementref08_Pair) .nil)), (.cons (.ptr (.cons (.int .i64) (.cons (.lst t_easementref08_Pair) (.cons (.lst (.int .i32)) (.cons (.lst (.int .i32)) (.cons (.lst (.int .i32)) (.cons (.lst (.int .i32)) .nil))))))) (.cons (.int .i64) .nil)), law10_Of, none⟩
theorem law10_Of_ok : CtrOK Try.prog 9 law10_Of_c := fun_E k4 Try.func9 k4s (by kernel_rfl) (fun x => by kernel_rfl)
/-! ### (*easement/graph.Graph).Nodes: function 37 -/
noncomputable def graph_Graph_Nodes (x : ((Option V_graph_Graph) × Unit)) : Option (Int × Unit) :=
  cond (x.1.isNone)
    (some ((0 : Int), ()))
    (ck (x.1.isSome) <|
    some ((x.1.getD (Ty.dflt (.cons (.int .i64) (.cons (.lst t_easementref08_Pair) (.cons (.lst (.int .i32)) (.cons (.lst (.int .i32)) (.cons (.lst (.int .i32)) (.cons (.lst (.int .i32)) .nil)))))))).1, ()))
noncomputable def graph_Graph_Nodes_c : Ctr := ⟨(.cons (.ptr (.cons (.int .i64) (.cons (.lst t_easementref08_Pair) (.cons (.lst (.int .i32)) (.cons (.lst (.int .i32)) (.cons (.lst (.int .i32)) (.cons (.lst (.int .i32)) .nil))))))) .nil), (.cons (.int .i64) .nil), graph_Graph_Nodes, none⟩
theorem graph_Graph_Nodes_ok : CtrOK Try.prog 37 graph_Graph_Nodes_c := fun_E (ls := []) k0 Try.func37 trivial (by kernel_rfl) (fun x => by kernel_rfl)
/-! ### (*easement/stack.Stack[int]).Push: function 61, at objects -/
noncomputable def stack_Stack_int_Push_p0 (x : (V_scc_finder × (List Int) × Unit)) : Option ((V_scc_finder × Unit) ⊕ Empty) :=
  ck (roomB (x.1.2.2.2.1 ++ x.2.1).length 10) <|
  some (.inl ((x.1.1, x.1.2.1, x.1.2.2.1, x.1.2.2.2.1 ++ x.2.1, x.1.2.2.2.2), ()))
noncomputable def k6L : LCtr := ⟨[0, 1], (.cons (.ptr 3 q10) (.cons (.val (.lst (.int .i64))) .nil)), [], [], [⟨.normal, [0], (.cons (.ptr 3 q10) .nil), [some 0, some 1, some 2, none, some 4, some 5, some 6]⟩], fun _ => [], stack_Stack_int_Push_p0⟩
noncomputable def stack_Stack_int_Push_p0_c : PI := mkPI Try.f61 k6L
theorem stack_Stack_int_Push_p0_ok : PIOK Try.prog 61 stack_Stack_int_Push_p0_c := proc_E (ls := []) k0 Try.func61 trivial (by kernel_rfl) (fun x => by kernel_rfl)
/-! ### easement/graph.ints: function 71, at objects -/
noncomputable def graph_ints_p0_l6_step (g : ((List Int) × (List Int) × Int × Int × Unit) → Option (V_point_Points ⊕ Empty)) (x : ((List Int) × (List Int) × Int × Int × Unit)) : Option (V_point_Points ⊕ Empty) :=
  cond (decide (x.2.2.2.1 < x.2.2.1))
    (ck (inB x.2.2.2.1 (x.2.1.length)) <|
    ck (inB x.2.2.2.1 (x.1.length)) <|
    g (x.1.set x.2.2.2.1.toNat (IntKind.i64.wrap (rdL (.int .i32) x.2.1 x.2.2.2.1)), x.2.1, x.2.2.1, IntKind.i64.wrap (x.2.2.2.1 + (1 : Int)), ()))
    (some (.inl (x.1, ())))
noncomputable def k9l1 : LCtr := ⟨[3, 9, 10, 11], (.cons (.own (.int .i64)) (.cons (.val (.lst (.int .i32))) (.cons (.val (.int .i64)) (.cons (.val (.int .i64)) .nil)))), [some 0], [0, 3], [⟨(.exit 0), [3], (.cons (.own (.int .i64)) .nil), [some 0]⟩], fun _ => [], lim graph_ints_p0_l6_step⟩
theorem k9s : LsOK Try.prog Try.f71.ntmps (codeOf Try.f71) [(6, k9l1)] := loop_E 6 k9l1 k0 trivial (by kernel_rfl) rfl (fun g x => by kernel_rfl)
noncomputable def graph_ints_p0 (x : V_point_Points) : Option (V_point_Points ⊕ Empty) :=
  ck (decide (0 ≤ (x.1.length : Int)) && decide ((x.1.length : Int) ≤ (x.1.length : Int)) && decide ((x.1.length : Int) * ((10 : Nat) : Int) ≤ 35184372088832)) <|
  Option.bind (lim graph_ints_p0_l6_step (List.replicate (x.1.length : Int).toNat ((0 : Int) : Int), x.1, (x.1.length : Int), (0 : Int), ())) fun y1 => out1 y1
    (fun z2 =>
      some (.inl z2))
noncomputable def k9L : LCtr := ⟨[0], (.cons (.val (.lst (.int .i32))) .nil), [], [], [⟨.ret, [2], (.cons (.own (.int .i64)) .nil), [none]⟩], fun _ => [], graph_ints_p0⟩
noncomputable def graph_ints_p0_c : PI := mkPI Try.f71 k9L
theorem graph_ints_p0_ok : PIOK Try.prog 71 graph_ints_p0_c := proc_E k0 Try.func71 k9s (by kernel_rfl) (fun x => by kernel_rfl)
/-! ### (*easement/graph.Graph).Out: function 66, at objects -/
noncomputable def k10 : FE Try.prog := ⟨[(37, graph_Graph_Nodes_c)], [(71, [graph_ints_p0_c])], [], [], ⟨graph_Graph_Nodes_ok, trivial⟩, ⟨⟨graph_ints_p0_ok, trivial⟩, trivial⟩, trivial⟩
noncomputable def graph_Graph_Out_p0 (x : ((Option V_graph_Graph) × Int × Unit)) : Option (V_point_Points ⊕ Empty) :=
  cond (!(decide (x.2.1 < (0 : Int))))
    (Option.bind (graph_Graph_Nodes (x.1, ())) fun y1 =>
    cond (decide (x.2.1 ≥ y1.1))
      (some (.inl (([] : List Int), ())))
      (ck (x.1.isSome) <|
      ck (x.1.isSome) <|
      let v1 := (x.1.getD (Ty.dflt (.cons (.int .i64) (.cons (.lst t_easementref08_Pair) (.cons (.lst (.int .i32)) (.cons (.lst (.int .i32)) (.cons (.lst (.int .i32)) (.cons (.lst (.int .i32)) .nil)))))))).2.2.2.2.1
      ck (inB x.2.1 (v1.length)) <|
      ck (x.1.isSome) <|
      let v2 := IntKind.i64.wrap (x.2.1 + (1 : Int))
      let v3 := (x.1.getD (Ty.dflt (.cons (.int .i64) (.cons (.lst t_easementref08_Pair) (.cons (.lst (.int .i32)) (.cons (.lst (.int .i32)) (.cons (.lst (.int .i32)) (.cons (.lst (.int .i32)) .nil)))))))).2.2.2.2.1
      ck (inB v2 (v3.length)) <|
      let v4 := (x.1.getD (Ty.dflt (.cons (.int .i64) (.cons (.lst t_easementref08_Pair) (.cons (.lst (.int .i32)) (.cons (.lst (.int .i32)) (.cons (.lst (.int .i32)) (.cons (.lst (.int .i32)) .nil)))))))).2.2.1
      ck (decide (0 ≤ (rdL (.int .i32) v1 x.2.1)) && decide ((rdL (.int .i32) v1 x.2.1) ≤ (rdL (.int .i32) v3 v2)) && decide ((rdL (.int .i32) v3 v2) ≤ v4.length)) <|
      Option.bind (graph_ints_p0 ((v4.take (rdL (.int .i32) v3 v2).toNat).drop (rdL (.int .i32) v1 x.2.1).toNat, ())) fun y2 => out1 y2
        (fun z3 =>
          some (.inl z3))))
    (some (.inl (([] : List Int), ())))
noncomputable def k10L : LCtr := ⟨[0, 1], (.cons (.val (.ptr (.cons (.int .i64) (.cons (.lst t_easementref08_Pair) (.cons (.lst (.int .i32)) (.cons (.lst (.int .i32)) (.cons (.lst (.int .i32)) (.cons (.lst (.int .i32)) .nil)))))))) (.cons (.val (.int .i64)) .nil)), [], [], [⟨.ret, [4], (.cons (.own (.int .i64)) .nil), [none]⟩], fun _ => [], graph_Graph_Out_p0⟩
noncomputable def graph_Graph_Out_p0_c : PI := mkPI Try.f66 k10L
theorem graph_Graph_Out_p0_ok : PIOK Try.prog 66 graph_Graph_Out_p0_c := proc_E (ls := []) k10 Try.func66 trivial (by kernel_rfl) (fun x => by kernel_rfl)
/-! ### (*easement/graph.Graph).Next: function 57 -/
noncomputable def k11 : FE Try.prog := ⟨[], [(66, [graph_Graph_Out_p0_c])], [], [], trivial, ⟨⟨graph_Graph_Out_p0_ok, trivial⟩, trivial⟩, trivial⟩
noncomputable def graph_Graph_Next_l6_step (g : ((Option V_graph_Graph) × (List Int) × Int × Int × Unit) → Option (V_point_Points ⊕ Empty)) (x : ((Option V_graph_Graph) × (List Int) × Int × Int × Unit)) : Option (V_point_Points ⊕ Empty) :=
  cond (decide (x.2.2.2.1 < x.2.2.1))
    (ck (inB x.2.2.2.1 (x.2.1.length)) <|
    ck (x.1.isSome) <|
    let v1 := x.2.1.getD x.2.2.2.1.toNat (Ty.dflt (.int .i64))
    let v2 := (x.1.getD (Ty.dflt (.cons (.int .i64) (.cons (.lst t_easementref08_Pair) (.cons (.lst (.int .i32)) (.cons (.lst (.int .i32)) (.cons (.lst (.int .i32)) (.cons (.lst (.int .i32)) .nil)))))))).2.1
    ck (inB v1 (v2.length)) <|
    ck (inB x.2.2.2.1 (x.2.1.length)) <|
    g (x.1, x.2.1.set x.2.2.2.1.toNat (rdL t_easementref08_Pair v2 v1).2.1, x.2.2.1, IntKind.i64.wrap (x.2.2.2.1 + (1 : Int)), ()))
    (some (.inl (x.2.1, ())))
noncomputable def k11l1 : LCtr := ⟨[0, 5, 12, 13], (.cons (.val (.ptr (.cons (.int .i64) (.cons (.lst t_easementref08_Pair) (.cons (.lst (.int .i32)) (.cons (.lst (.int .i32)) (.cons (.lst (.int .i32)) (.cons (.lst (.int .i32)) .nil)))))))) (.cons (.own (.int .i64)) (.cons (.val (.int .i64)) (.cons (.val (.int .i64)) .nil)))), [some 0], [5], [⟨(.exit 0), [5], (.cons (.own (.int .i64)) .nil), [some 0]⟩], fun _ => [(11, .sf 0)], lim graph_Graph_Next_l6_step⟩
theorem k11s : LsOK Try.prog Try.f57.ntmps (codeOf Try.f57) [(6, k11l1)] := loop_E 6 k11l1 k11 trivial (by kernel_rfl) rfl (fun g x => by kernel_rfl)
noncomputable def graph_Graph_Next (x : ((Option V_graph_Graph) × Int × Unit)) : Option ((List Int) × Unit) :=
  Option.bind (graph_Graph_Out_p0 x) fun y1 => out1 y1
    (fun z2 =>
      Option.bind (lim graph_Graph_Next_l6_step (x.1, z2.1, (z2.1.length : Int), (0 : Int), ())) fun y3 => out1 y3
        (fun z4 =>
          some z4))
noncomputable def graph_Graph_Next_c : Ctr := ⟨(.cons (.ptr (.cons (.int .i64) (.cons (.lst t_easementref08_Pair) (.cons (.lst (.int .i32)) (.cons (.lst (.int .i32)) (.cons (.lst (.int .i32)) (.cons (.lst (.int .i32)) .nil))))))) (.cons (.int .i64) .nil)), (.cons (.lst (.int .i64)) .nil), graph_Graph_Next, none⟩
theorem graph_Graph_Next_ok : CtrOK Try.prog 57 graph_Graph_Next_c := fun_E k11 Try.func57 k11s (by kernel_rfl) (fun x => by kernel_rfl)
/-! ### (*easement/stack.Stack[easement/scc.call]).Push: function 52, at objects -/
noncomputable def stack_Stack_scc_call_Push_p0 (x : (V_scc_finder × (List V_scc_call) × Unit)) : Option ((V_scc_finder × Unit) ⊕ Empty) :=
  ck (roomB (x.1.2.2.2.2.2.1 ++ x.2.1).length 35) <|
  some (.inl ((x.1.1, x.1.2.1, x.1.2.2.1, x.1.2.2.2.1, x.1.2.2.2.2.1, x.1.2.2.2.2.2.1 ++ x.2.1, x.1.2.2.2.2.2.2), ()))
noncomputable def k12L : LCtr := ⟨[0, 1], (.cons (.ptr 5 q10) (.cons (.val (.lst t_scc_call)) .nil)), [], [], [⟨.normal, [0], (.cons (.ptr 5 q10) .nil), [some 0, some 1, some 2, some 3, some 4, none, some 6]⟩], fun _ => [], stack_Stack_scc_call_Push_p0⟩
noncomputable def stack_Stack_scc_call_Push_p0_c : PI := mkPI Try.f52 k12L
theorem stack_Stack_scc_call_Push_p0_ok : PIOK Try.prog 52 stack_Stack_scc_call_Push_p0_c := proc_E (ls := []) k0 Try.func52 trivial (by kernel_rfl) (fun x => by kernel_rfl)
/-! ### (*easement/scc.finder).opens: function 50, at objects -/
noncomputable def k13 : FE Try.prog := ⟨[(57, graph_Graph_Next_c)], [(61, [stack_Stack_int_Push_p0_c]), (52, [stack_Stack_scc_call_Push_p0_c])], [(42, [1]), (55, [1])], [], ⟨graph_Graph_Next_ok, trivial⟩, ⟨⟨stack_Stack_int_Push_p0_ok, trivial⟩, ⟨stack_Stack_scc_call_Push_p0_ok, trivial⟩, trivial⟩, trivial⟩
noncomputable def scc_finder_opens_p0 (x : (V_scc_finder × Int × Unit)) : Option ((V_scc_finder × Unit) ⊕ Empty) :=
  ck (inB x.2.1 (x.1.2.1.length)) <|
  ck (inB x.2.1 (x.1.2.2.1.length)) <|
  ck (inB x.2.1 (x.1.2.2.2.2.1.length)) <|
  let v1 := IntKind.i64.wrap (x.1.2.2.2.2.2.2.2.1 + (1 : Int))
  let v2 := IntKind.i64.wrap ((1 : Int) + v1)
  Option.bind (stack_Stack_int_Push_p0 ((x.1.1, x.1.2.1.set x.2.1.toNat v2, x.1.2.2.1.set x.2.1.toNat v2, x.1.2.2.2.1, x.1.2.2.2.2.1.set x.2.1.toNat (1 : Int), x.1.2.2.2.2.2.1, x.1.2.2.2.2.2.2.1, v1, ()), [x.2.1], ())) fun y1 => out1 y1
    (fun z2 =>
      Option.bind (graph_Graph_Next (z2.1.1, x.2)) fun y3 =>
      Option.bind (stack_Stack_scc_call_Push_p0 (z2.1, [(x.2.1, y3)], ())) fun y4 => out1 y4
        (fun z5 =>
          some (.inl z5)))
noncomputable def k13L : LCtr := ⟨[0, 1], (.cons (.ptr 0 q10) (.cons (.val (.int .i64)) .nil)), [], [], [⟨.normal, [0], (.cons (.ptr 0 q10) .nil), [some 0, some 1, some 2, none, some 4, none, some 6]⟩], fun _ => [], scc_finder_opens_p0⟩
noncomputable def scc_finder_opens_p0_c : PI := mkPI Try.f50 k13L
theorem scc_finder_opens_p0_ok : PIOK Try.prog 50 scc_finder_opens_p0_c := proc_E (ls := []) k13 Try.func50 trivial (by kernel_rfl) (fun x => by kernel_rfl)
/-! ### (*easement/stack.Stack[easement/scc.call]).Len: function 69, at objects -/
noncomputable def stack_Stack_scc_call_Len_p0 (x : (V_scc_finder × Unit)) : Option ((Int × V_scc_finder × Unit) ⊕ Empty) :=
  some (.inl ((x.1.2.2.2.2.2.1.length : Int), x))
noncomputable def k14L : LCtr := ⟨[0], (.cons (.ptr 5 q10) .nil), [], [], [⟨.ret, [2, 0], (.cons (.val (.int .i64)) (.cons (.ptr 5 q10) .nil)), [some 0, some 1, some 2, some 3, some 4, some 5, some 6]⟩], fun _ => [], stack_Stack_scc_call_Len_p0⟩
noncomputable def stack_Stack_scc_call_Len_p0_c : PI := mkPI Try.f69 k14L
theorem stack_Stack_scc_call_Len_p0_ok : PIOK Try.prog 69 stack_Stack_scc_call_Len_p0_c := proc_E (ls := []) k0 Try.func69 trivial (by kernel_rfl) (fun x => by kernel_rfl)
/-! ### (*easement/stack.Stack[easement/scc.call]).Top: function 62, at objects -/
noncomputable def k15 : FE Try.prog := ⟨[], [(69, [stack_Stack_scc_call_Len_p0_c])], [], [], trivial, ⟨⟨stack_Stack_scc_call_Len_p0_ok, trivial⟩, trivial⟩, trivial⟩
noncomputable def stack_Stack_scc_call_Top_p0 (x : (V_scc_finder × Unit)) : Option ((V_scc_call × Bool × V_scc_finder × Unit) ⊕ Empty) :=
  Option.bind (stack_Stack_scc_call_Len_p0 x) fun y1 => out1 y1
    (fun z2 =>
      cond (z2.1 == (0 : Int))
        (some (.inl (((0 : Int), ([] : List Int), ()), false, z2.2)))
        (let v1 := IntKind.i64.wrap ((z2.2.1.2.2.2.2.2.1.length : Int) - (1 : Int))
        ck (inB v1 (z2.2.1.2.2.2.2.2.1.length)) <|
        some (.inl (z2.2.1.2.2.2.2.2.1.getD v1.toNat (Ty.dflt t_scc_call), true, z2.2))))
noncomputable def k15L : LCtr := ⟨[0], (.cons (.ptr 5 q10) .nil), [], [], [⟨.ret, [2, 3, 0], q14, [none, some 0, some 1, some 2, some 3, some 4, some 5, some 6]⟩], fun _ => [], stack_Stack_scc_call_Top_p0⟩
noncomputable def stack_Stack_scc_call_Top_p0_c : PI := mkPI Try.f62 k15L
theorem stack_Stack_scc_call_Top_p0_ok : PIOK Try.prog 62 stack_Stack_scc_call_Top_p0_c := proc_E (ls := []) k15 Try.func62 trivial (by kernel_rfl) (fun x => by kernel_rfl)
/-! ### (*easement/stack.Stack[easement/scc.call]).Pop: function 51, at objects -/
noncomputable def k16 : FE Try.prog := ⟨[], [(62, [stack_Stack_scc_call_Top_p0_c])], [], [], trivial, ⟨⟨stack_Stack_scc_call_Top_p0_ok, trivial⟩, trivial⟩, trivial⟩
noncomputable def stack_Stack_scc_call_Pop_p0_j25_v (x : (V_scc_finder × Bool × Unit)) : Option ((V_scc_finder × Unit) ⊕ Empty) :=
  cond (x.2.1)
    (let v1 := IntKind.i64.wrap ((x.1.2.2.2.2.2.1.length : Int) - (1 : Int))
    ck (inB v1 (x.1.2.2.2.2.2.1.length)) <|
    let v2 := x.1.2.2.2.2.2.1.set v1.toNat ((0 : Int), ([] : List Int), (x.1.2.2.2.2.2.1.getD v1.toNat (Ty.dflt t_scc_call)).2.2)
    let v3 := IntKind.i64.wrap ((v2.length : Int) - (1 : Int))
    ck (decide (0 ≤ v3) && decide (v3 ≤ v2.length)) <|
    some (.inl ((x.1.1, x.1.2.1, x.1.2.2.1, x.1.2.2.2.1, x.1.2.2.2.2.1, v2.take v3.toNat, x.1.2.2.2.2.2.2), ())))
    (some (.inl (x.1, ())))
noncomputable def k16l1 : LCtr := ⟨[0, 12], (.cons (.ptr 5 q10) (.cons (.val .bool) .nil)), [], [0, 2, 4, 5], [⟨.normal, [0], (.cons (.ptr 5 q10) .nil), [some 0, some 1, some 2, some 3, some 4, none, some 6]⟩], fun _ => [], stack_Stack_scc_call_Pop_p0_j25_v⟩
theorem k16s : LsOK Try.prog Try.f51.ntmps (codeOf Try.f51) [(393241, k16l1)] := join_E 393241 k16l1 k16 trivial (by kernel_rfl) (fun x => by kernel_rfl)
noncomputable def stack_Stack_scc_call_Pop_p0 (x : (V_scc_finder × Unit)) : Option ((V_scc_call × Bool × V_scc_finder × Unit) ⊕ Empty) :=
  Option.bind (stack_Stack_scc_call_Top_p0 x) fun y1 => out1 y1
    (fun z2 =>
      Option.bind (stack_Stack_scc_call_Pop_p0_j25_v (z2.2.2.1, z2.2.1, ())) fun y3 => out1 y3
        (fun z4 =>
          some (.inl (z2.1, z2.2.1, z4))))
noncomputable def k16L : LCtr := ⟨[0], (.cons (.ptr 5 q10) .nil), [], [], [⟨.ret, [2, 3, 0], q14, [none, some 0, some 1, some 2, some 3, some 4, none, some 6]⟩], fun _ => [], stack_Stack_scc_call_Pop_p0⟩
noncomputable def stack_Stack_scc_call_Pop_p0_c : PI := mkPI Try.f51 k16L
theorem stack_Stack_scc_call_Pop_p0_ok : PIOK Try.prog 51 stack_Stack_scc_call_Pop_p0_c := proc_E k16 Try.func51 k16s (by kernel_rfl) (fun x => by kernel_rfl)
/-! ### (*easement/stack.Stack[int]).Len: function 83, at objects -/
noncomputable def stack_Stack_int_Len_p0 (x : (V_scc_finder × Unit)) : Option ((Int × V_scc_finder × Unit) ⊕ Empty) :=
  some (.inl ((x.1.2.2.2.1.length : Int), x))
noncomputable def k17L : LCtr := ⟨[0], (.cons (.ptr 3 q10) .nil), [], [], [⟨.ret, [2, 0], (.cons (.val (.int .i64)) (.cons (.ptr 3 q10) .nil)), [some 0, some 1, some 2, some 3, some 4, some 5, some 6]⟩], fun _ => [], stack_Stack_int_Len_p0⟩
noncomputable def stack_Stack_int_Len_p0_c : PI := mkPI Try.f83 k17L
theorem stack_Stack_int_Len_p0_ok : PIOK Try.prog 83 stack_Stack_int_Len_p0_c := proc_E (ls := []) k0 Try.func83 trivial (by kernel_rfl) (fun x => by kernel_rfl)
/-! ### (*easement/stack.Stack[int]).Top: function 70, at objects -/
noncomputable def k18 : FE Try.prog := ⟨[], [(83, [stack_Stack_int_Len_p0_c])], [], [], trivial, ⟨⟨stack_Stack_int_Len_p0_ok, trivial⟩, trivial⟩, trivial⟩
noncomputable def stack_Stack_int_Top_p0 (x : (V_scc_finder × Unit)) : Option ((Int × Bool × V_scc_finder × Unit) ⊕ Empty) :=
  Option.bind (stack_Stack_int_Len_p0 x) fun y1 => out1 y1
    (fun z2 =>
      cond (z2.1 == (0 : Int))
        (some (.inl ((0 : Int), false, z2.2)))
        (let v1 := IntKind.i64.wrap ((z2.2.1.2.2.2.1.length : Int) - (1 : Int))
        ck (inB v1 (z2.2.1.2.2.2.1.length)) <|
        some (.inl (z2.2.1.2.2.2.1.getD v1.toNat (Ty.dflt (.int .i64)), true, z2.2))))
noncomputable def k18L : LCtr := ⟨[0], (.cons (.ptr 3 q10) .nil), [], [], [⟨.ret, [2, 3, 0], q15, [some 0, some 1, some 2, some 3, some 4, some 5, some 6]⟩], fun _ => [], stack_Stack_int_Top_p0⟩
noncomputable def stack_Stack_int_Top_p0_c : PI := mkPI Try.f70 k18L
theorem stack_Stack_int_Top_p0_ok : PIOK Try.prog 70 stack_Stack_int_Top_p0_c := proc_E (ls := []) k18 Try.func70 trivial (by kernel_rfl) (fun x => by kernel_rfl)
/-! ### (*easement/stack.Stack[int]).Pop: function 63, at objects -/
noncomputable def k19 : FE Try.prog := ⟨[], [(70, [stack_Stack_int_Top_p0_c])], [], [], trivial, ⟨⟨stack_Stack_int_Top_p0_ok, trivial⟩, trivial⟩, trivial⟩
noncomputable def stack_Stack_int_Pop_p0_j25_v (x : (V_scc_finder × Bool × Unit)) : Option ((V_scc_finder × Unit) ⊕ Empty) :=
  cond (x.2.1)
    (let v1 := IntKind.i64.wrap ((x.1.2.2.2.1.length : Int) - (1 : Int))
    ck (inB v1 (x.1.2.2.2.1.length)) <|
    let v2 := x.1.2.2.2.1.set v1.toNat (0 : Int)
    let v3 := IntKind.i64.wrap ((v2.length : Int) - (1 : Int))
    ck (decide (0 ≤ v3) && decide (v3 ≤ v2.length)) <|
    some (.inl ((x.1.1, x.1.2.1, x.1.2.2.1, v2.take v3.toNat, x.1.2.2.2.2), ())))
    (some (.inl (x.1, ())))
noncomputable def k19l1 : LCtr := ⟨[0, 12], (.cons (.ptr 3 q10) (.cons (.val .bool) .nil)), [], [0, 4, 5], [⟨.normal, [0], (.cons (.ptr 3 q10) .nil), [some 0, some 1, some 2, none, some 4, some 5, some 6]⟩], fun _ => [], stack_Stack_int_Pop_p0_j25_v⟩
theorem k19s : LsOK Try.prog Try.f63.ntmps (codeOf Try.f63) [(393241, k19l1)] := join_E 393241 k19l1 k19 trivial (by kernel_rfl) (fun x => by kernel_rfl)
noncomputable def stack_Stack_int_Pop_p0 (x : (V_scc_finder × Unit)) : Option ((Int × Bool × V_scc_finder × Unit) ⊕ Empty) :=
  Option.bind (stack_Stack_int_Top_p0 x) fun y1 => out1 y1
    (fun z2 =>
      Option.bind (stack_Stack_int_Pop_p0_j25_v (z2.2.2.1, z2.2.1, ())) fun y3 => out1 y3
        (fun z4 =>
          some (.inl (z2.1, z2.2.1, z4))))
noncomputable def k19L : LCtr := ⟨[0], (.cons (.ptr 3 q10) .nil), [], [], [⟨.ret, [2, 3, 0], q15, [some 0, some 1, some 2, none, some 4, some 5, some 6]⟩], fun _ => [], stack_Stack_int_Pop_p0⟩
noncomputable def stack_Stack_int_Pop_p0_c : PI := mkPI Try.f63 k19L
theorem stack_Stack_int_Pop_p0_ok : PIOK Try.prog 63 stack_Stack_int_Pop_p0_c := proc_E k19 Try.func63 k19s (by kernel_rfl) (fun x => by kernel_rfl)
/-! ### (*easement/scc.finder).closes: function 53, at objects -/
noncomputable def k20 : FE Try.prog := ⟨[], [(63, [stack_Stack_int_Pop_p0_c])], [], [(58, 0)], trivial, ⟨⟨stack_Stack_int_Pop_p0_ok, trivial⟩, trivial⟩, ⟨S189_ok, trivial⟩⟩
noncomputable def scc_finder_closes_p0_l4_step (g : (V_scc_finder × Int × (List Int) × Unit) → Option ((V_scc_finder × (List Int) × Unit) ⊕ Empty)) (x : (V_scc_finder × Int × (List Int) × Unit)) : Option ((V_scc_finder × (List Int) × Unit) ⊕ Empty) :=
  Option.bind (stack_Stack_int_Pop_p0 (x.1, ())) fun y1 => out1 y1
    (fun z2 =>
      ck (inB z2.1 (z2.2.2.1.2.2.2.2.1.length)) <|
      ck (roomB (x.2.2.1 ++ [z2.1]).length 10) <|
      cond (z2.1 == x.2.1)
        (let v1 := z2.2.2.1.2.2.2.2.2.2.1 ++ [srt (x.2.2.1 ++ [z2.1])]
        ck (roomB v1.length 26) <|
        some (.inl ((z2.2.2.1.1, z2.2.2.1.2.1, z2.2.2.1.2.2.1, z2.2.2.1.2.2.2.1, z2.2.2.1.2.2.2.2.1.set z2.1.toNat (0 : Int), z2.2.2.1.2.2.2.2.2.1, v1, z2.2.2.1.2.2.2.2.2.2.2), srt (x.2.2.1 ++ [z2.1]), ())))
        (g ((z2.2.2.1.1, z2.2.2.1.2.1, z2.2.2.1.2.2.1, z2.2.2.1.2.2.2.1, z2.2.2.1.2.2.2.2.1.set z2.1.toNat (0 : Int), z2.2.2.1.2.2.2.2.2), x.2.1, x.2.2.1 ++ [z2.1], ())))
noncomputable def k20l1 : LCtr := ⟨[0, 1, 4], (.cons (.ptr 0 q10) (.cons (.val (.int .i64)) (.cons (.own (.int .i64)) .nil))), [some 0, some 1, some 2, none, some 4, some 5, some 6, none], [0, 1], [⟨.ret, [0, 4], (.cons (.ptr 0 q10) (.cons (.val (.lst (.int .i64))) .nil)), [some 0, some 1, some 2, none, some 4, some 5, none]⟩], fun _ => [], lim scc_finder_closes_p0_l4_step⟩
theorem k20s : LsOK Try.prog Try.f53.ntmps (codeOf Try.f53) [(4, k20l1)] := loop_E 4 k20l1 k20 trivial (by kernel_rfl) rfl (fun g x => by kernel_rfl)
noncomputable def scc_finder_closes_p0 (x : (V_scc_finder × Int × Unit)) : Option ((V_scc_finder × Unit) ⊕ Empty) :=
  ck (inB x.2.1 (x.1.2.2.1.length)) <|
  ck (inB x.2.1 (x.1.2.1.length)) <|
  cond ((x.1.2.2.1.getD x.2.1.toNat (Ty.dflt (.int .i64))) != (x.1.2.1.getD x.2.1.toNat (Ty.dflt (.int .i64))))
    (some (.inl (x.1, ())))
    (Option.bind (lim scc_finder_closes_p0_l4_step (x.1, x.2.1, ([] : List Int), ())) fun y3 => out1 y3
      (fun z4 =>
        some (.inl (z4.1, ()))))
noncomputable def k20L : LCtr := ⟨[0, 1], (.cons (.ptr 0 q10) (.cons (.val (.int .i64)) .nil)), [], [], [⟨.ret, [0], (.cons (.ptr 0 q10) .nil), [some 0, some 1, some 2, none, some 4, some 5, none]⟩], fun _ => [], scc_finder_closes_p0⟩
noncomputable def scc_finder_closes_p0_c : PI := mkPI Try.f53 k20L
theorem scc_finder_closes_p0_ok : PIOK Try.prog 53 scc_finder_closes_p0_c := proc_E k20 Try.func53 k20s (by kernel_rfl) (fun x => by kernel_rfl)
/-! ### (*easement/scc.finder).goes: function 38, at objects -/
noncomputable def k21 : FE Try.prog := ⟨[], [(50, [scc_finder_opens_p0_c]), (51, [stack_Stack_scc_call_Pop_p0_c]), (52, [stack_Stack_scc_call_Push_p0_c]), (53, [scc_finder_closes_p0_c])], [(55, [1])], [], trivial, ⟨⟨scc_finder_opens_p0_ok, trivial⟩, ⟨stack_Stack_scc_call_Pop_p0_ok, trivial⟩, ⟨stack_Stack_scc_call_Push_p0_ok, trivial⟩, ⟨scc_finder_closes_p0_ok, trivial⟩, trivial⟩, trivial⟩
noncomputable def scc_finder_goes_p0_j119_v (x : (V_scc_finder × V_scc_call × Int × Bool × Unit)) : Option ((V_scc_finder × V_scc_call × Unit) ⊕ Empty) :=
  cond (x.2.2.2.1)
    (ck (inB x.2.1.1 (x.1.2.2.1.length)) <|
    ck (inB x.2.2.1 (x.1.2.2.1.length)) <|
    ck (inB x.2.1.1 (x.1.2.2.1.length)) <|
    some (.inl ((x.1.1, x.1.2.1, x.1.2.2.1.set x.2.1.1.toNat (minI (x.1.2.2.1.getD x.2.1.1.toNat (Ty.dflt (.int .i64))) (x.1.2.2.1.getD x.2.2.1.toNat (Ty.dflt (.int .i64)))), x.1.2.2.2), x.2.1, ())))
    (some (.inl (x.1, x.2.1, ())))
noncomputable def k21l1 : LCtr := ⟨[0, 4, 7, 59], (.cons (.ptr 0 q10) (.cons (.ptr 0 (.cons (.val (.int .i64)) (.cons (.val (.lst (.int .i64))) .nil))) (.cons (.val (.int .i64)) (.cons (.val .bool) .nil)))), [], [0, 4, 21, 22, 23], [⟨.normal, [0, 4], q18, [some 0, some 1, some 2, some 3, some 4, some 5, some 6, some 7]⟩], fun _ => [], scc_finder_goes_p0_j119_v⟩
noncomputable def scc_finder_goes_p0_l8_step (g : (V_scc_finder × V_scc_call × (List Int) × Int × Int × Unit) → Option T5) (x : (V_scc_finder × V_scc_call × (List Int) × Int × Int × Unit)) : Option T5 :=
  cond (decide (x.2.2.2.2.1 < x.2.2.2.1))
    (ck (inB x.2.2.2.2.1 (x.2.2.1.length)) <|
    let v1 := rdL (.int .i64) x.2.2.1 x.2.2.2.2.1
    ck (inB v1 (x.1.2.1.length)) <|
    cond ((x.1.2.1.getD v1.toNat (Ty.dflt (.int .i64))) == (0 : Int))
      (ck (decide (0 ≤ x.2.2.2.2.1) && decide (x.2.2.2.2.1 ≤ x.2.1.2.1.length)) <|
      Option.bind (stack_Stack_scc_call_Push_p0 ((x.1.1, x.1.2.1, x.1.2.2.1, x.1.2.2.2.1, x.1.2.2.2.2.1, x.1.2.2.2.2.2.1, x.1.2.2.2.2.2.2.1, IntKind.i64.wrap (x.1.2.2.2.2.2.2.2.1 + (1 : Int)), ()), [(x.2.1.1, x.2.1.2.1.drop x.2.2.2.2.1.toNat, ())], ())) fun y5 => out1 y5
        (fun z6 =>
          Option.bind (scc_finder_opens_p0 (z6.1, v1, ())) fun y7 => out1 y7
            (fun z8 =>
              some (.inl (z8.1, x.2.1, ())))))
      (ck (inB v1 (x.1.2.2.2.2.1.length)) <|
      Option.bind (scc_finder_goes_p0_j119_v ((x.1.1, x.1.2.1, x.1.2.2.1, x.1.2.2.2.1, x.1.2.2.2.2.1, x.1.2.2.2.2.2.1, x.1.2.2.2.2.2.2.1, IntKind.i64.wrap (x.1.2.2.2.2.2.2.2.1 + (1 : Int)), ()), x.2.1, v1, decide ((x.1.2.2.2.2.1.getD v1.toNat (Ty.dflt (.int .i64))) > (0 : Int)), ())) fun y9 => out1 y9
        (fun z10 =>
          g (z10.1, z10.2.1, x.2.2.1, x.2.2.2.1, IntKind.i64.wrap (x.2.2.2.2.1 + (1 : Int)), ()))))
    (some (.inr (.inl (x.1, x.2.1, ()))))
noncomputable def k21l2 : LCtr := ⟨[0, 4, 21, 22, 23], (.cons (.ptr 0 q10) (.cons (.ptr 0 (.cons (.val (.int .i64)) (.cons (.val (.lst (.int .i64))) .nil))) (.cons (.val (.lst (.int .i64))) (.cons (.val (.int .i64)) (.cons (.val (.int .i64)) .nil))))), [some 0, some 1, some 2, some 3, some 4, some 5, some 6, some 7], [0, 4], [⟨(.exit 1), [0, 4], q18, [some 0, some 1, some 2, none, some 4, none, some 6, some 7]⟩, ⟨(.exit 2), [0, 4], q18, [some 0, some 1, some 2, some 3, some 4, some 5, some 6, some 7]⟩], fun _ => [], lim scc_finder_goes_p0_l8_step⟩
noncomputable def scc_finder_goes_p0_l2_step (g : (V_scc_finder × Unit) → Option ((V_scc_finder × Unit) ⊕ Empty)) (x : (V_scc_finder × Unit)) : Option ((V_scc_finder × Unit) ⊕ Empty) :=
  Option.bind (stack_Stack_scc_call_Pop_p0 x) fun y3 => out1 y3
    (fun z4 =>
      cond (!z4.2.1)
        (some (.inl z4.2.2))
        (Option.bind (lim scc_finder_goes_p0_l8_step (z4.2.2.1, z4.1, z4.1.2.1, (z4.1.2.1.length : Int), (0 : Int), ())) fun y11 => out2 y11
          (fun z12 =>
            g (z12.1, ()))
          (fun z13 =>
            Option.bind (scc_finder_closes_p0 (z13.1, z13.2.1.1, ())) fun y14 => out1 y14
              (fun z15 =>
                g z15))))
noncomputable def k21l3 : LCtr := ⟨[0], (.cons (.ptr 0 q10) .nil), [some 0, some 1, some 2, none, some 4, none, none], [0, 1], [⟨.ret, [0], (.cons (.ptr 0 q10) .nil), [some 0, some 1, some 2, none, some 4, none, none]⟩], fun _ => [], lim scc_finder_goes_p0_l2_step⟩
theorem k21s : LsOK Try.prog Try.f38.ntmps (codeOf Try.f38) [(2, k21l3), (8, k21l2), (1441911, k21l1)] := loop_E 2 k21l3 k21 (loop_E 8 k21l2 k21 (join_E 1441911 k21l1 k21 trivial (by kernel_rfl) (fun x => by kernel_rfl)) (by kernel_rfl) rfl (fun g x => by kernel_rfl)) (by kernel_rfl) rfl (fun g x => by kernel_rfl)
noncomputable def scc_finder_goes_p0 (x : (V_scc_finder × Int × Unit)) : Option ((V_scc_finder × Unit) ⊕ Empty) :=
  Option.bind (scc_finder_opens_p0 x) fun y1 => out1 y1
    (fun z2 =>
      Option.bind (lim scc_finder_goes_p0_l2_step z2) fun y16 => out1 y16
        (fun z17 =>
          some (.inl z17)))
noncomputable def k21L : LCtr := ⟨[0, 1], (.cons (.ptr 0 q10) (.cons (.val (.int .i64)) .nil)), [], [], [⟨.ret, [0], (.cons (.ptr 0 q10) .nil), [some 0, some 1, some 2, none, some 4, none, none]⟩], fun _ => [], scc_finder_goes_p0⟩
noncomputable def scc_finder_goes_p0_c : PI := mkPI Try.f38 k21L
theorem scc_finder_goes_p0_ok : PIOK Try.prog 38 scc_finder_goes_p0_c := proc_E k21 Try.func38 k21s (by kernel_rfl) (fun x => by kernel_rfl)
/-! ### (*easement/tick.Counter).Add: function 39, at objects -/
noncomputable def tick_Counter_Add_p0 (x : (Unit × Int × Int × Unit)) : Option (Unit ⊕ Empty) :=
  some (.inl ())
noncomputable def k22L : LCtr := ⟨[0, 1, 2], (.cons (.cst true) (.cons (.val (.int .i64)) (.cons (.val (.int .i64)) .nil))), [], [], [⟨.ret, [], .nil, []⟩], fun _ => [], tick_Counter_Add_p0⟩
noncomputable def tick_Counter_Add_p0_c : PI := mkPI Try.f39 k22L
theorem tick_Counter_Add_p0_ok : PIOK Try.prog 39 tick_Counter_Add_p0_c := proc_E (ls := []) k0 Try.func39 trivial (by kernel_rfl) (fun x => by kernel_rfl)
/-! ### (*easement/graph.Graph).Arcs: function 45 -/
noncomputable def graph_Graph_Arcs (x : ((Option V_graph_Graph) × Unit)) : Option (Int × Unit) :=
  cond (x.1.isNone)
    (some ((0 : Int), ()))
    (ck (x.1.isSome) <|
    some (((x.1.getD (Ty.dflt (.cons (.int .i64) (.cons (.lst t_easementref08_Pair) (.cons (.lst (.int .i32)) (.cons (.lst (.int .i32)) (.cons (.lst (.int .i32)) (.cons (.lst (.int .i32)) .nil)))))))).2.1.length : Int), ()))
noncomputable def graph_Graph_Arcs_c : Ctr := ⟨(.cons (.ptr (.cons (.int .i64) (.cons (.lst t_easementref08_Pair) (.cons (.lst (.int .i32)) (.cons (.lst (.int .i32)) (.cons (.lst (.int .i32)) (.cons (.lst (.int .i32)) .nil))))))) .nil), (.cons (.int .i64) .nil), graph_Graph_Arcs, none⟩
theorem graph_Graph_Arcs_ok : CtrOK Try.prog 45 graph_Graph_Arcs_c := fun_E (ls := []) k0 Try.func45 trivial (by kernel_rfl) (fun x => by kernel_rfl)
/-! ### (*easement/graph.Graph).Arc: function 46 -/
noncomputable def k24 : FE Try.prog := ⟨[(45, graph_Graph_Arcs_c)], [], [], [], ⟨graph_Graph_Arcs_ok, trivial⟩, trivial, trivial⟩
noncomputable def graph_Graph_Arc (x : ((Option V_graph_Graph) × Int × Unit)) : Option (V_easementref08_Pair × Bool × Unit) :=
  cond (!(decide (x.2.1 < (0 : Int))))
    (Option.bind (graph_Graph_Arcs (x.1, ())) fun y1 =>
    cond (decide (x.2.1 ≥ y1.1))
      (some (((0 : Int), (0 : Int), ()), false, ()))
      (ck (x.1.isSome) <|
      let v1 := (x.1.getD (Ty.dflt (.cons (.int .i64) (.cons (.lst t_easementref08_Pair) (.cons (.lst (.int .i32)) (.cons (.lst (.int .i32)) (.cons (.lst (.int .i32)) (.cons (.lst (.int .i32)) .nil)))))))).2.1
      ck (inB x.2.1 (v1.length)) <|
      some (rdL t_easementref08_Pair v1 x.2.1, true, ())))
    (some (((0 : Int), (0 : Int), ()), false, ()))
noncomputable def graph_Graph_Arc_c : Ctr := ⟨(.cons (.ptr (.cons (.int .i64) (.cons (.lst t_easementref08_Pair) (.cons (.lst (.int .i32)) (.cons (.lst (.int .i32)) (.cons (.lst (.int .i32)) (.cons (.lst (.int .i32)) .nil))))))) (.cons (.int .i64) .nil)), (.cons t_easementref08_Pair (.cons .bool .nil)), graph_Graph_Arc, none⟩
theorem graph_Graph_Arc_ok : CtrOK Try.prog 46 graph_Graph_Arc_c := fun_E (ls := []) k24 Try.func46 trivial (by kernel_rfl) (fun x => by kernel_rfl)
/-! ### (*easement/scc.least).Push: function 110, at objects -/
noncomputable def scc_least_Push_p0 (x : (V_scc_least × Int × Unit)) : Option ((V_scc_least × Unit) ⊕ Empty) :=
  ck (roomB (x.1.2.1 ++ [x.2.1]).length 10) <|
  some (.inl ((x.1.1, x.1.2.1 ++ [x.2.1], ()), ()))
noncomputable def k25L : LCtr := ⟨[0, 1], (.cons (.ptr 0 q21) (.cons (.iv 3 (.int .i64)) .nil)), [], [], [⟨.normal, [0], (.cons (.ptr 0 q21) .nil), [some 0, none]⟩], fun _ => [], scc_least_Push_p0⟩
noncomputable def scc_least_Push_p0_c : PI := mkPI Try.f110 k25L
theorem scc_least_Push_p0_ok : PIOK Try.prog 110 scc_least_Push_p0_c := proc_E (ls := []) k0 Try.func110 trivial (by kernel_rfl) (fun x => by kernel_rfl)
/-! ### (*easement/scc.least).Len: function 55, at objects -/
noncomputable def scc_least_Len_p0 (x : (V_scc_least × Unit)) : Option ((Int × V_scc_least × Unit) ⊕ Empty) :=
  some (.inl ((x.1.2.1.length : Int), x))
noncomputable def k26L : LCtr := ⟨[0], (.cons (.ptr 0 q21) .nil), [], [], [⟨.ret, [2, 0], (.cons (.val (.int .i64)) (.cons (.ptr 0 q21) .nil)), [some 0, some 1]⟩], fun _ => [], scc_least_Len_p0⟩
noncomputable def scc_least_Len_p0_c : PI := mkPI Try.f55 k26L
theorem scc_least_Len_p0_ok : PIOK Try.prog 55 scc_least_Len_p0_c := proc_E (ls := []) k0 Try.func55 trivial (by kernel_rfl) (fun x => by kernel_rfl)
/-! ### (*easement/scc.least).Less: function 108 -/
noncomputable def scc_least_Less (x : ((Option V_scc_least) × Int × Int × Unit)) : Option (Bool × Unit) :=
  ck (x.1.isSome) <|
  ck (x.1.isSome) <|
  let v1 := (x.1.getD (Ty.dflt (.cons (.lst (.lst (.int .i64))) (.cons (.lst (.int .i64)) .nil)))).2.1
  ck (inB x.2.1 (v1.length)) <|
  let v2 := (x.1.getD (Ty.dflt (.cons (.lst (.lst (.int .i64))) (.cons (.lst (.int .i64)) .nil)))).1
  ck (inB (rdL (.int .i64) v1 x.2.1) (v2.length)) <|
  let v3 := rdL (.lst (.int .i64)) v2 (rdL (.int .i64) v1 x.2.1)
  ck (inB (0 : Int) (v3.length)) <|
  ck (x.1.isSome) <|
  ck (x.1.isSome) <|
  let v4 := (x.1.getD (Ty.dflt (.cons (.lst (.lst (.int .i64))) (.cons (.lst (.int .i64)) .nil)))).2.1
  ck (inB x.2.2.1 (v4.length)) <|
  let v5 := rdL (.int .i64) v4 x.2.2.1
  let v6 := (x.1.getD (Ty.dflt (.cons (.lst (.lst (.int .i64))) (.cons (.lst (.int .i64)) .nil)))).1
  ck (inB v5 (v6.length)) <|
  let v7 := rdL (.lst (.int .i64)) v6 v5
  ck (inB (0 : Int) (v7.length)) <|
  some (decide ((rdL (.int .i64) v3 (0 : Int)) < (rdL (.int .i64) v7 (0 : Int))), ())
noncomputable def scc_least_Less_c : Ctr := ⟨(.cons (.ptr (.cons (.lst (.lst (.int .i64))) (.cons (.lst (.int .i64)) .nil))) (.cons (.int .i64) (.cons (.int .i64) .nil))), (.cons .bool .nil), scc_least_Less, none⟩
theorem scc_least_Less_ok : CtrOK Try.prog 108 scc_least_Less_c := fun_E (ls := []) k0 Try.func108 trivial (by kernel_rfl) (fun x => by kernel_rfl)
/-! ### (*easement/scc.least).Swap: function 111, at objects -/
noncomputable def scc_least_Swap_p0 (x : (V_scc_least × Int × Int × Unit)) : Option ((V_scc_least × Unit) ⊕ Empty) :=
  ck (inB x.2.2.1 (x.1.2.1.length)) <|
  ck (inB x.2.1 (x.1.2.1.length)) <|
  ck (inB x.2.1 (x.1.2.1.length)) <|
  let v1 := x.1.2.1.set x.2.1.toNat (x.1.2.1.getD x.2.2.1.toNat (Ty.dflt (.int .i64)))
  ck (inB x.2.2.1 (v1.length)) <|
  some (.inl ((x.1.1, v1.set x.2.2.1.toNat (x.1.2.1.getD x.2.1.toNat (Ty.dflt (.int .i64))), ()), ()))
noncomputable def k28L : LCtr := ⟨[0, 1, 2], q22, [], [], [⟨.normal, [0], (.cons (.ptr 0 q21) .nil), [some 0, some 1]⟩], fun _ => [], scc_least_Swap_p0⟩
noncomputable def scc_least_Swap_p0_c : PI := mkPI Try.f111 k28L
theorem scc_least_Swap_p0_ok : PIOK Try.prog 111 scc_least_Swap_p0_c := proc_E (ls := []) k0 Try.func111 trivial (by kernel_rfl) (fun x => by kernel_rfl)
/-! ### container/heap.up: function 64, at objects -/
noncomputable def k29 : FE Try.prog := ⟨[(108, scc_least_Less_c)], [(111, [scc_least_Swap_p0_c])], [], [], ⟨scc_least_Less_ok, trivial⟩, ⟨⟨scc_least_Swap_p0_ok, trivial⟩, trivial⟩, trivial⟩
noncomputable def heap_up_p0_l0_step (g : (V_scc_least × Int × Unit) → Option ((Int × V_scc_least × Unit) ⊕ Empty)) (x : (V_scc_least × Int × Unit)) : Option ((Int × V_scc_least × Unit) ⊕ Empty) :=
  ck (!decide ((2 : Int) = 0)) <|
  let v1 := IntKind.i64.wrap (Int.tdiv (IntKind.i64.wrap (x.2.1 - (1 : Int))) (2 : Int))
  cond (!(v1 == x.2.1))
    (Option.bind (scc_least_Less (some x.1, x.2.1, v1, ())) fun y1 =>
    cond (!y1.1)
      (some (.inl (x.2.1, x.1, ())))
      (Option.bind (scc_least_Swap_p0 (x.1, v1, x.2)) fun y2 => out1 y2
        (fun z3 =>
          g (z3.1, v1, ()))))
    (some (.inl (x.2.1, x.1, ())))
noncomputable def k29l1 : LCtr := ⟨[0, 1], (.cons (.ip 98 q21) (.cons (.val (.int .i64)) .nil)), [some 0, some 1], [0], [⟨(.exit 0), [1, 0], (.cons (.val (.int .i64)) (.cons (.ip 98 q21) .nil)), [some 0, some 1]⟩], fun _ => [], lim heap_up_p0_l0_step⟩
theorem k29s : LsOK Try.prog Try.f64.ntmps (codeOf Try.f64) [(0, k29l1)] := loop_E 0 k29l1 k29 trivial (by kernel_rfl) rfl (fun g x => by kernel_rfl)
noncomputable def heap_up_p0 (x : (V_scc_least × Int × Unit)) : Option ((V_scc_least × Unit) ⊕ Empty) :=
  Option.bind (lim heap_up_p0_l0_step x) fun y4 => out1 y4
    (fun z5 =>
      some (.inl z5.2))
noncomputable def k29L : LCtr := ⟨[0, 1], (.cons (.ip 98 q21) (.cons (.val (.int .i64)) .nil)), [], [], [⟨.normal, [0], (.cons (.ip 98 q21) .nil), [some 0, some 1]⟩], fun _ => [], heap_up_p0⟩
noncomputable def heap_up_p0_c : PI := mkPI Try.f64 k29L
theorem heap_up_p0_ok : PIOK Try.prog 64 heap_up_p0_c := proc_E k29 Try.func64 k29s (by kernel_rfl) (fun x => by kernel_rfl)
/-! ### container/heap.Push: function 54, at objects -/
noncomputable def k30 : FE Try.prog := ⟨[], [(110, [scc_least_Push_p0_c]), (55, [scc_least_Len_p0_c]), (64, [heap_up_p0_c])], [], [], trivial, ⟨⟨scc_least_Push_p0_ok, trivial⟩, ⟨scc_least_Len_p0_ok, trivial⟩, ⟨heap_up_p0_ok, trivial⟩, trivial⟩, trivial⟩
noncomputable def heap_Push_p0 (x : (V_scc_least × Int × Unit)) : Option ((V_scc_least × Unit) ⊕ Empty) :=
  Option.bind (scc_least_Push_p0 x) fun y1 => out1 y1
    (fun z2 =>
      Option.bind (scc_least_Len_p0 z2) fun y3 => out1 y3
        (fun z4 =>
          Option.bind (heap_up_p0 (z4.2.1, IntKind.i64.wrap (z4.1 - (1 : Int)), ())) fun y5 => out1 y5
            (fun z6 =>
              some (.inl z6))))
noncomputable def k30L : LCtr := ⟨[0, 1], (.cons (.ip 98 q21) (.cons (.iv 3 (.int .i64)) .nil)), [], [], [⟨.normal, [0], (.cons (.ip 98 q21) .nil), [some 0, none]⟩], fun _ => [], heap_Push_p0⟩
noncomputable def heap_Push_p0_c : PI := mkPI Try.f54 k30L
theorem heap_Push_p0_ok : PIOK Try.prog 54 heap_Push_p0_c := proc_E (ls := []) k30 Try.func54 trivial (by kernel_rfl) (fun x => by kernel_rfl)
/-! ### (*easement/graph.Graph).Turn: function 16 -/
noncomputable def graph_Graph_Turn_l10_step (g : T6 → Option ((V_graph_Graph × Unit) ⊕ Empty)) (x : T6) : Option ((V_graph_Graph × Unit) ⊕ Empty) :=
  cond (decide (x.2.2.2.1 < x.2.2.1))
    (ck (inB x.2.2.2.1 (x.2.1.length)) <|
    ck (inB x.2.2.2.1 (x.1.2.1.length)) <|
    let v1 := rdL t_easementref08_Pair x.2.1 x.2.2.2.1
    g ((x.1.1, x.1.2.1.set x.2.2.2.1.toNat (v1.2.1, v1.1, (x.1.2.1.getD x.2.2.2.1.toNat (Ty.dflt t_easementref08_Pair)).2.2), x.1.2.2), x.2.1, x.2.2.1, IntKind.i64.wrap (x.2.2.2.1 + (1 : Int)), ()))
    (some (.inl (x.1, ())))
noncomputable def k31l1 : LCtr := ⟨[3, 39, 40, 41], (.cons (.ptr 0 q23) (.cons (.val (.lst t_easementref08_Pair)) (.cons (.val (.int .i64)) (.cons (.val (.int .i64)) .nil)))), [some 0, some 1], [3], [⟨(.exit 0), [3], (.cons (.ptr 0 q23) .nil), [some 0, some 1]⟩], fun _ => [], lim graph_Graph_Turn_l10_step⟩
theorem k31s : LsOK Try.prog Try.f16.ntmps (codeOf Try.f16) [(10, k31l1)] := loop_E 10 k31l1 k0 trivial (by kernel_rfl) rfl (fun g x => by kernel_rfl)
noncomputable def graph_Graph_Turn (x : ((Option V_graph_Graph) × Unit)) : Option ((Option V_graph_Graph) × Unit) :=
  cond (x.1.isNone)
    (some ((none : Option V_graph_Graph), ()))
    (ck (x.1.isSome) <|
    ck (x.1.isSome) <|
    let v1 := ((x.1.getD (Ty.dflt (.cons (.int .i64) (.cons (.lst t_easementref08_Pair) (.cons (.lst (.int .i32)) (.cons (.lst (.int .i32)) (.cons (.lst (.int .i32)) (.cons (.lst (.int .i32)) .nil)))))))).2.1.length : Int)
    ck (decide (0 ≤ v1) && decide (v1 ≤ v1) && decide (v1 * ((19 : Nat) : Int) ≤ 35184372088832)) <|
    ck (x.1.isSome) <|
    ck (x.1.isSome) <|
    ck (x.1.isSome) <|
    ck (x.1.isSome) <|
    ck (x.1.isSome) <|
    let v2 := (x.1.getD (Ty.dflt (.cons (.int .i64) (.cons (.lst t_easementref08_Pair) (.cons (.lst (.int .i32)) (.cons (.lst (.int .i32)) (.cons (.lst (.int .i32)) (.cons (.lst (.int .i32)) .nil)))))))).2.1
    Option.bind (lim graph_Graph_Turn_l10_step (((x.1.getD (Ty.dflt (.cons (.int .i64) (.cons (.lst t_easementref08_Pair) (.cons (.lst (.int .i32)) (.cons (.lst (.int .i32)) (.cons (.lst (.int .i32)) (.cons (.lst (.int .i32)) .nil)))))))).1, List.replicate v1.toNat (((0 : Int), (0 : Int), ()) : V_easementref08_Pair), (x.1.getD (Ty.dflt (.cons (.int .i64) (.cons (.lst t_easementref08_Pair) (.cons (.lst (.int .i32)) (.cons (.lst (.int .i32)) (.cons (.lst (.int .i32)) (.cons (.lst (.int .i32)) .nil)))))))).2.2.2.1, (x.1.getD (Ty.dflt (.cons (.int .i64) (.cons (.lst t_easementref08_Pair) (.cons (.lst (.int .i32)) (.cons (.lst (.int .i32)) (.cons (.lst (.int .i32)) (.cons (.lst (.int .i32)) .nil)))))))).2.2.1, (x.1.getD (Ty.dflt (.cons (.int .i64) (.cons (.lst t_easementref08_Pair) (.cons (.lst (.int .i32)) (.cons (.lst (.int .i32)) (.cons (.lst (.int .i32)) (.cons (.lst (.int .i32)) .nil)))))))).2.2.2.2.2.1, (x.1.getD (Ty.dflt (.cons (.int .i64) (.cons (.lst t_easementref08_Pair) (.cons (.lst (.int .i32)) (.cons (.lst (.int .i32)) (.cons (.lst (.int .i32)) (.cons (.lst (.int .i32)) .nil)))))))).2.2.2.2.1, ()), v2, (v2.length : Int), (0 : Int), ())) fun y1 => out1 y1
      (fun z2 =>
        some (some z2.1, ())))
noncomputable def graph_Graph_Turn_c : Ctr := ⟨(.cons (.ptr (.cons (.int .i64) (.cons (.lst t_easementref08_Pair) (.cons (.lst (.int .i32)) (.cons (.lst (.int .i32)) (.cons (.lst (.int .i32)) (.cons (.lst (.int .i32)) .nil))))))) .nil), (.cons (.ptr (.cons (.int .i64) (.cons (.lst t_easementref08_Pair) (.cons (.lst (.int .i32)) (.cons (.lst (.int .i32)) (.cons (.lst (.int .i32)) (.cons (.lst (.int .i32)) .nil))))))) .nil), graph_Graph_Turn, none⟩
theorem graph_Graph_Turn_ok : CtrOK Try.prog 16 graph_Graph_Turn_c := fun_E k0 Try.func16 k31s (by kernel_rfl) (fun x => by kernel_rfl)
/-! ### (*easement/scc.least).Less: function 108, at objects -/
noncomputable def scc_least_Less_p0 (x : (V_scc_least × Int × Int × Unit)) : Option ((Bool × V_scc_least × Unit) ⊕ Empty) :=
  ck (inB x.2.1 (x.1.2.1.length)) <|
  let v1 := x.1.2.1.getD x.2.1.toNat (Ty.dflt (.int .i64))
  ck (inB v1 (x.1.1.length)) <|
  let v2 := rdL (.lst (.int .i64)) x.1.1 v1
  ck (inB (0 : Int) (v2.length)) <|
  ck (inB x.2.2.1 (x.1.2.1.length)) <|
  let v3 := x.1.2.1.getD x.2.2.1.toNat (Ty.dflt (.int .i64))
  ck (inB v3 (x.1.1.length)) <|
  let v4 := rdL (.lst (.int .i64)) x.1.1 v3
  ck (inB (0 : Int) (v4.length)) <|
  some (.inl (decide ((rdL (.int .i64) v2 (0 : Int)) < (rdL (.int .i64) v4 (0 : Int))), x.1, ()))
noncomputable def k32L : LCtr := ⟨[0, 1, 2], q22, [], [], [⟨.ret, [6, 0], (.cons (.val .bool) (.cons (.ptr 0 q21) .nil)), [some 0, some 1]⟩], fun _ => [], scc_least_Less_p0⟩
noncomputable def scc_least_Less_p0_c : PI := mkPI Try.f108 k32L
theorem scc_least_Less_p0_ok : PIOK Try.prog 108 scc_least_Less_p0_c := proc_E (ls := []) k0 Try.func108 trivial (by kernel_rfl) (fun x => by kernel_rfl)
/-! ### container/heap.down: function 65, at objects -/
noncomputable def k33 : FE Try.prog := ⟨[(108, scc_least_Less_c)], [(108, [scc_least_Less_p0_c]), (111, [scc_least_Swap_p0_c])], [], [], ⟨scc_least_Less_ok, trivial⟩, ⟨⟨scc_least_Less_p0_ok, trivial⟩, ⟨scc_least_Swap_p0_ok, trivial⟩, trivial⟩, trivial⟩
noncomputable def heap_down_p0_j67_v (x : V_easementref22_Point) : Option ((Int × Unit) ⊕ Empty) :=
  cond (x.2.2.1)
    (some (.inl (x.2.1, ())))
    (some (.inl (x.1, ())))
noncomputable def k33l1 : LCtr := ⟨[9, 10, 33], (.cons (.val (.int .i64)) (.cons (.val (.int .i64)) (.cons (.val .bool) .nil))), [], [0, 2, 7], [⟨.normal, [9], (.cons (.val (.int .i64)) .nil), []⟩], fun _ => [], heap_down_p0_j67_v⟩
noncomputable def heap_down_p0_l4_step (g : (V_scc_least × Int × Int × Unit) → Option ((Int × V_scc_least × Unit) ⊕ Empty)) (x : (V_scc_least × Int × Int × Unit)) : Option ((Int × V_scc_least × Unit) ⊕ Empty) :=
  let v1 := IntKind.i64.wrap ((IntKind.i64.wrap ((2 : Int) * x.2.2.1)) + (1 : Int))
  cond (cond (decide (v1 ≥ x.2.1)) true (decide (v1 < (0 : Int))))
    (some (.inl (x.2.2.1, x.1, ())))
    (let v2 := IntKind.i64.wrap (v1 + (1 : Int))
    cond (decide (v2 < x.2.1))
      (Option.bind (scc_least_Less (some x.1, v2, v1, ())) fun y1 =>
      Option.bind (heap_down_p0_j67_v (v1, v2, y1)) fun y2 => out1 y2
        (fun z3 =>
          Option.bind (scc_least_Less_p0 (x.1, z3.1, x.2.2)) fun y4 => out1 y4
            (fun z5 =>
              cond (!z5.1)
                (some (.inl (x.2.2.1, z5.2)))
                (Option.bind (scc_least_Swap_p0 (z5.2.1, x.2.2.1, z3)) fun y6 => out1 y6
                  (fun z7 =>
                    g (z7.1, x.2.1, z3))))))
      (Option.bind (heap_down_p0_j67_v (v1, v2, false, ())) fun y8 => out1 y8
        (fun z9 =>
          Option.bind (scc_least_Less_p0 (x.1, z9.1, x.2.2)) fun y10 => out1 y10
            (fun z11 =>
              cond (!z11.1)
                (some (.inl (x.2.2.1, z11.2)))
                (Option.bind (scc_least_Swap_p0 (z11.2.1, x.2.2.1, z9)) fun y12 => out1 y12
                  (fun z13 =>
                    g (z13.1, x.2.1, z9)))))))
noncomputable def k33l2 : LCtr := ⟨[0, 2, 7], q26, [some 0, some 1], [0, 1, 2], [⟨(.exit 0), [7, 0], (.cons (.val (.int .i64)) (.cons (.ip 98 q21) .nil)), [some 0, some 1]⟩], fun _ => [], lim heap_down_p0_l4_step⟩
theorem k33s : LsOK Try.prog Try.f65.ntmps (codeOf Try.f65) [(4, k33l2), (917571, k33l1)] := loop_E 4 k33l2 k33 (join_E 917571 k33l1 k33 trivial (by kernel_rfl) (fun x => by kernel_rfl)) (by kernel_rfl) rfl (fun g x => by kernel_rfl)
noncomputable def heap_down_p0 (x : (V_scc_least × Int × Int × Unit)) : Option ((Bool × V_scc_least × Unit) ⊕ Empty) :=
  Option.bind (lim heap_down_p0_l4_step (x.1, x.2.2.1, x.2.1, ())) fun y14 => out1 y14
    (fun z15 =>
      some (.inl (decide (z15.1 > x.2.1), z15.2)))
noncomputable def k33L : LCtr := ⟨[0, 1, 2], q26, [], [], [⟨.ret, [6, 0], (.cons (.val .bool) (.cons (.ip 98 q21) .nil)), [some 0, some 1]⟩], fun _ => [], heap_down_p0⟩
noncomputable def heap_down_p0_c : PI := mkPI Try.f65 k33L
theorem heap_down_p0_ok : PIOK Try.prog 65 heap_down_p0_c := proc_E k33 Try.func65 k33s (by kernel_rfl) (fun x => by kernel_rfl)
/-! ### (*easement/scc.least).Pop: function 109, at objects -/
noncomputable def scc_least_Pop_p0 (x : (V_scc_least × Unit)) : Option ((Int × V_scc_least × Unit) ⊕ Empty) :=
  let v1 := IntKind.i64.wrap ((x.1.2.1.length : Int) - (1 : Int))
  ck (inB v1 (x.1.2.1.length)) <|
  let v2 := IntKind.i64.wrap ((x.1.2.1.length : Int) - (1 : Int))
  ck (decide (0 ≤ v2) && decide (v2 ≤ x.1.2.1.length)) <|
  some (.inl (x.1.2.1.getD v1.toNat (Ty.dflt (.int .i64)), (x.1.1, x.1.2.1.take v2.toNat, ()), ()))
noncomputable def k34L : LCtr := ⟨[0], (.cons (.ptr 0 q21) .nil), [], [], [⟨.ret, [2, 0], (.cons (.iv 3 (.int .i64)) (.cons (.ptr 0 q21) .nil)), [some 0, none]⟩], fun _ => [], scc_least_Pop_p0⟩
noncomputable def scc_least_Pop_p0_c : PI := mkPI Try.f109 k34L
theorem scc_least_Pop_p0_ok : PIOK Try.prog 109 scc_least_Pop_p0_c := proc_E (ls := []) k0 Try.func109 trivial (by kernel_rfl) (fun x => by kernel_rfl)
/-! ### container/heap.Pop: function 56, at objects -/
noncomputable def k35 : FE Try.prog := ⟨[], [(55, [scc_least_Len_p0_c]), (111, [scc_least_Swap_p0_c]), (65, [heap_down_p0_c]), (109, [scc_least_Pop_p0_c])], [], [], trivial, ⟨⟨scc_least_Len_p0_ok, trivial⟩, ⟨scc_least_Swap_p0_ok, trivial⟩, ⟨heap_down_p0_ok, trivial⟩, ⟨scc_least_Pop_p0_ok, trivial⟩, trivial⟩, trivial⟩
noncomputable def heap_Pop_p0 (x : (V_scc_least × Unit)) : Option ((Int × V_scc_least × Unit) ⊕ Empty) :=
  Option.bind (scc_least_Len_p0 x) fun y1 => out1 y1
    (fun z2 =>
      let v1 := IntKind.i64.wrap (z2.1 - (1 : Int))
      Option.bind (scc_least_Swap_p0 (z2.2.1, (0 : Int), v1, ())) fun y3 => out1 y3
        (fun z4 =>
          Option.bind (heap_down_p0 (z4.1, (0 : Int), v1, ())) fun y5 => out1 y5
            (fun z6 =>
              Option.bind (scc_least_Pop_p0 z6.2) fun y7 => out1 y7
                (fun z8 =>
                  some (.inl z8)))))
noncomputable def k35L : LCtr := ⟨[0], (.cons (.ip 98 q21) .nil), [], [], [⟨.ret, [2, 0], (.cons (.iv 3 (.int .i64)) (.cons (.ip 98 q21) .nil)), [some 0, none]⟩], fun _ => [], heap_Pop_p0⟩
noncomputable def heap_Pop_p0_c : PI := mkPI Try.f56 k35L
theorem heap_Pop_p0_ok : PIOK Try.prog 56 heap_Pop_p0_c := proc_E (ls := []) k35 Try.func56 trivial (by kernel_rfl) (fun x => by kernel_rfl)
/-! ### easement/scc.ordered: function 40, at objects -/
noncomputable def k36 : FE Try.prog := ⟨[(37, graph_Graph_Nodes_c), (45, graph_Graph_Arcs_c), (46, graph_Graph_Arc_c), (16, graph_Graph_Turn_c), (57, graph_Graph_Next_c)], [(54, [heap_Push_p0_c]), (55, [scc_least_Len_p0_c]), (56, [heap_Pop_p0_c]), (39, [tick_Counter_Add_p0_c])], [], [], ⟨graph_Graph_Nodes_ok, graph_Graph_Arcs_ok, graph_Graph_Arc_ok, graph_Graph_Turn_ok, graph_Graph_Next_ok, trivial⟩, ⟨⟨heap_Push_p0_ok, trivial⟩, ⟨scc_least_Len_p0_ok, trivial⟩, ⟨heap_Pop_p0_ok, trivial⟩, ⟨tick_Counter_Add_p0_ok, trivial⟩, trivial⟩, trivial⟩
noncomputable def scc_ordered_p0_l14_step (g : ((List Int) × Int × (List Int) × Int × Int × Unit) → Option (V_point_Points ⊕ Empty)) (x : ((List Int) × Int × (List Int) × Int × Int × Unit)) : Option (V_point_Points ⊕ Empty) :=
  cond (decide (x.2.2.2.2.1 < x.2.2.2.1))
    (ck (inB x.2.2.2.2.1 (x.2.2.1.length)) <|
    let v1 := rdL (.int .i64) x.2.2.1 x.2.2.2.2.1
    ck (inB v1 (x.1.length)) <|
    g (x.1.set v1.toNat x.2.1, x.2.1, x.2.2.1, x.2.2.2.1, IntKind.i64.wrap (x.2.2.2.2.1 + (1 : Int)), ()))
    (some (.inl (x.1, ())))
noncomputable def k36l1 : LCtr := ⟨[8, 9, 42, 43, 44], q27, [some 0], [8, 35, 36, 37], [⟨(.exit 2), [8], (.cons (.own (.int .i64)) .nil), [some 0]⟩], fun _ => [], lim scc_ordered_p0_l14_step⟩
noncomputable def scc_ordered_p0_l8_step (g : ((List Int) × (List (List Int)) × Int × Int × Unit) → Option (V_point_Points ⊕ Empty)) (x : ((List Int) × (List (List Int)) × Int × Int × Unit)) : Option (V_point_Points ⊕ Empty) :=
  cond (decide (x.2.2.2.1 < x.2.2.1))
    (ck (inB x.2.2.2.1 (x.2.1.length)) <|
    let v1 := rdL (.lst (.int .i64)) x.2.1 x.2.2.2.1
    Option.bind (lim scc_ordered_p0_l14_step (x.1, x.2.2.2.1, v1, (v1.length : Int), (0 : Int), ())) fun y3 => out1 y3
      (fun z4 =>
        g (z4.1, x.2.1, x.2.2.1, IntKind.i64.wrap (x.2.2.2.1 + (1 : Int)), ())))
    (some (.inl (x.1, ())))
noncomputable def k36l2 : LCtr := ⟨[8, 35, 36, 37], q28, [some 0], [0, 1, 2, 7, 8], [⟨(.exit 0), [8], (.cons (.own (.int .i64)) .nil), [some 0]⟩], fun _ => [], lim scc_ordered_p0_l8_step⟩
noncomputable def scc_ordered_p0_j157_v (x : T7) : Option T8 :=
  cond (x.2.2.2.1)
    (ck (inB x.1.1 (x.2.1.length)) <|
    let v1 := x.2.1.getD x.1.1.toNat (Ty.dflt (.int .i64))
    ck (inB v1 (x.2.2.1.length)) <|
    ck (inB v1 (x.2.2.1.length)) <|
    some (.inl (x.1, x.2.1, x.2.2.1.set v1.toNat (IntKind.i64.wrap ((x.2.2.1.getD v1.toNat (Ty.dflt (.int .i64))) + (1 : Int))), ())))
    (some (.inl (x.1, x.2.1, x.2.2.1, ())))
noncomputable def k36l3 : LCtr := ⟨[15, 8, 13, 78], q29, [], [0, 8, 13, 58, 59], [⟨.normal, [15, 8, 13], q30, [some 0, some 1, some 2]⟩], fun _ => [], scc_ordered_p0_j157_v⟩
noncomputable def scc_ordered_p0_l28_step (g : T9 → Option (((List Int) × (List Int) × Unit) ⊕ Empty)) (x : T9) : Option (((List Int) × (List Int) × Unit) ⊕ Empty) :=
  cond (decide (x.2.2.2.2.1 < x.2.2.2.1))
    (Option.bind (graph_Graph_Arc (x.1, x.2.2.2.2)) fun y8 =>
    ck (inB y8.1.1 (x.2.1.length)) <|
    ck (inB y8.1.2.1 (x.2.1.length)) <|
    Option.bind (scc_ordered_p0_j157_v (y8.1, x.2.1, x.2.2.1, (x.2.1.getD y8.1.1.toNat (Ty.dflt (.int .i64))) != (x.2.1.getD y8.1.2.1.toNat (Ty.dflt (.int .i64))), ())) fun y9 => out1 y9
      (fun z10 =>
        g (x.1, z10.2.1, z10.2.2.1, x.2.2.2.1, IntKind.i64.wrap (x.2.2.2.2.1 + (1 : Int)), ())))
    (some (.inl (x.2.1, x.2.2.1, ())))
noncomputable def k36l4 : LCtr := ⟨[0, 8, 13, 58, 59], q31, [some 0, some 1], [0, 1, 2, 7, 8, 13], [⟨(.exit 4), [8, 13], (.cons (.own (.int .i64)) (.cons (.own (.int .i64)) .nil)), [some 0, some 1]⟩], fun _ => [], lim scc_ordered_p0_l28_step⟩
noncomputable def scc_ordered_p0_j203_v (x : (V_scc_least × Int × Bool × Unit)) : Option ((V_scc_least × Unit) ⊕ Empty) :=
  cond (x.2.2.1)
    (Option.bind (heap_Push_p0 (x.1, x.2.1, ())) fun y13 => out1 y13
      (fun z14 =>
        some (.inl z14)))
    (some (.inl (x.1, ())))
noncomputable def k36l5 : LCtr := ⟨[17, 18, 101], q32, [], [17, 93, 94, 95], [⟨.normal, [17], (.cons (.ptr 0 q21) .nil), [some 0, none]⟩], fun _ => [], scc_ordered_p0_j203_v⟩
noncomputable def scc_ordered_p0_l44_step (g : (V_scc_least × (List Int) × Int × Int × Unit) → Option ((V_scc_least × (List Int) × Unit) ⊕ Empty)) (x : (V_scc_least × (List Int) × Int × Int × Unit)) : Option ((V_scc_least × (List Int) × Unit) ⊕ Empty) :=
  cond (decide (x.2.2.2.1 < x.2.2.1))
    (ck (inB x.2.2.2.1 (x.2.1.length)) <|
    Option.bind (scc_ordered_p0_j203_v (x.1, x.2.2.2.1, (x.2.1.getD x.2.2.2.1.toNat (Ty.dflt (.int .i64))) == (0 : Int), ())) fun y15 => out1 y15
      (fun z16 =>
        g (z16.1, x.2.1, x.2.2.1, IntKind.i64.wrap (x.2.2.2.1 + (1 : Int)), ())))
    (some (.inl (x.1, x.2.1, ())))
noncomputable def k36l6 : LCtr := ⟨[17, 93, 94, 95], q33, [some 0, none, some 2], [0, 1, 2, 7, 8, 13, 17], [⟨(.exit 6), [17, 93], (.cons (.ptr 0 q21) (.cons (.own (.int .i64)) .nil)), [some 0, none, some 2]⟩], fun _ => [], lim scc_ordered_p0_l44_step⟩
noncomputable def scc_ordered_p0_j373_v (x : (V_scc_least × (List Int) × Int × Bool × Unit)) : Option ((V_scc_least × (List Int) × Unit) ⊕ Empty) :=
  cond (x.2.2.2.1)
    (ck (inB x.2.2.1 (x.2.1.length)) <|
    Option.bind (heap_Push_p0 (x.1, x.2.1.getD x.2.2.1.toNat (Ty.dflt (.int .i64)), ())) fun y27 => out1 y27
      (fun z28 =>
        some (.inl (z28.1, x.2.1, ()))))
    (some (.inl (x.1, x.2.1, ())))
noncomputable def k36l7 : LCtr := ⟨[17, 8, 26, 186], q34, [], [2, 8, 13, 17, 21, 156, 157, 158], [⟨.normal, [17, 8], (.cons (.ptr 0 q21) (.cons (.own (.int .i64)) .nil)), [some 0, none, some 2]⟩], fun _ => [], scc_ordered_p0_j373_v⟩
noncomputable def scc_ordered_p0_l72_step (g : T10 → Option ((V_scc_least × (List Int) × (List Int) × Unit) ⊕ Empty)) (x : T10) : Option ((V_scc_least × (List Int) × (List Int) × Unit) ⊕ Empty) :=
  cond (decide (x.2.2.2.2.2.2.2.1 < x.2.2.2.2.2.2.1))
    (ck (inB x.2.2.2.2.2.2.2.1 (x.2.2.2.2.2.1.length)) <|
    Option.bind (tick_Counter_Add_p0 ((), (4 : Int), (1 : Int), ())) fun y25 => out1 y25
      (fun z26 =>
        let v1 := rdL (.int .i64) x.2.2.2.2.2.1 x.2.2.2.2.2.2.2.1
        ck (inB v1 (x.2.2.1.length)) <|
        cond ((x.2.2.1.getD v1.toNat (Ty.dflt (.int .i64))) == x.2.2.2.2.1)
          (g (x.1, (), x.2.2.1, x.2.2.2.1, x.2.2.2.2.1, x.2.2.2.2.2.1, x.2.2.2.2.2.2.1, IntKind.i64.wrap (x.2.2.2.2.2.2.2.1 + (1 : Int)), ()))
          (ck (inB v1 (x.2.2.1.length)) <|
          let v2 := x.2.2.1.getD v1.toNat (Ty.dflt (.int .i64))
          ck (inB v2 (x.2.2.2.1.length)) <|
          ck (inB v2 (x.2.2.2.1.length)) <|
          ck (inB v1 (x.2.2.1.length)) <|
          let v3 := x.2.2.1.getD v1.toNat (Ty.dflt (.int .i64))
          let v4 := x.2.2.2.1.set v2.toNat (IntKind.i64.wrap ((x.2.2.2.1.getD v2.toNat (Ty.dflt (.int .i64))) - (1 : Int)))
          ck (inB v3 (v4.length)) <|
          Option.bind (scc_ordered_p0_j373_v (x.1, x.2.2.1, v1, (v4.getD v3.toNat (Ty.dflt (.int .i64))) == (0 : Int), ())) fun y29 => out1 y29
            (fun z30 =>
              g (z30.1, (), z30.2.1, v4, x.2.2.2.2.1, x.2.2.2.2.2.1, x.2.2.2.2.2.2.1, IntKind.i64.wrap (x.2.2.2.2.2.2.2.1 + (1 : Int)), ())))))
    (some (.inl (x.1, x.2.2.1, x.2.2.2.1, ())))
noncomputable def k36l8 : LCtr := ⟨[17, 2, 8, 13, 21, 156, 157, 158], (.cons (.ptr 0 q21) (.cons (.cst true) (.cons (.own (.int .i64)) (.cons (.own (.int .i64)) (.cons (.val (.int .i64)) (.cons (.val (.lst (.int .i64))) (.cons (.val (.int .i64)) (.cons (.val (.int .i64)) .nil)))))))), [some 0, none, some 2, some 3], [2, 7, 8, 13, 17, 20, 21, 136, 137, 138], [⟨(.exit 12), [17, 8, 13], (.cons (.ptr 0 q21) (.cons (.own (.int .i64)) (.cons (.own (.int .i64)) .nil))), [some 0, none, some 2, some 3]⟩], fun _ => [], lim scc_ordered_p0_l72_step⟩
noncomputable def scc_ordered_p0_l64_step (g : T11 → Option T12) (x : T11) : Option T12 :=
  cond (decide (x.2.2.2.2.2.2.2.2.2.1 < x.2.2.2.2.2.2.2.2.1))
    (ck (inB x.2.2.2.2.2.2.2.2.2.1 (x.2.2.2.2.2.2.2.1.length)) <|
    let v1 := rdL (.int .i64) x.2.2.2.2.2.2.2.1 x.2.2.2.2.2.2.2.2.2.1
    ck (inB v1 (x.1.1.length)) <|
    Option.bind (graph_Graph_Next (x.2.2.2.2.2.1, v1, ())) fun y24 =>
    Option.bind (lim scc_ordered_p0_l72_step (x.2.1, (), x.2.2.2.1, x.2.2.2.2.1, x.2.2.2.2.2.2.1, y24.1, (y24.1.length : Int), (0 : Int), ())) fun y31 => out1 y31
      (fun z32 =>
        g ((x.1.1.set v1.toNat (IntKind.i64.wrap ((x.1.2.1.length : Int) - (1 : Int))), x.1.2), z32.1, (), z32.2.1, z32.2.2.1, x.2.2.2.2.2.1, x.2.2.2.2.2.2.1, x.2.2.2.2.2.2.2.1, x.2.2.2.2.2.2.2.2.1, IntKind.i64.wrap (x.2.2.2.2.2.2.2.2.2.1 + (1 : Int)), ())))
    (some (.inl (x.1, x.2.1, x.2.2.2.1, x.2.2.2.2.1, ())))
noncomputable def k36l9 : LCtr := ⟨[7, 17, 2, 8, 13, 20, 21, 136, 137, 138], (.cons (.ptr 0 (.cons (.own (.int .i64)) (.cons (.own (.lst (.int .i64))) .nil))) (.cons (.ptr 0 q21) (.cons (.cst true) (.cons (.own (.int .i64)) (.cons (.own (.int .i64)) (.cons (.val (.ptr (.cons (.int .i64) (.cons (.lst t_easementref08_Pair) (.cons (.lst (.int .i32)) (.cons (.lst (.int .i32)) (.cons (.lst (.int .i32)) (.cons (.lst (.int .i32)) .nil)))))))) (.cons (.val (.int .i64)) (.cons (.val (.lst (.int .i64))) (.cons (.val (.int .i64)) (.cons (.val (.int .i64)) .nil)))))))))), [some 0, some 1, some 2, some 3, none, some 5, some 6], [1, 2, 7, 8, 13, 17, 20], [⟨(.exit 10), [7, 17, 8, 13], q38, [some 0, some 1, some 2, some 3, none, some 5, some 6]⟩], fun _ => [], lim scc_ordered_p0_l64_step⟩
noncomputable def scc_ordered_p0_l56_step (g : T13 → Option T12) (x : T13) : Option T12 :=
  Option.bind (scc_least_Len_p0 (x.2.1, ())) fun y20 => out1 y20
    (fun z21 =>
      cond (decide (z21.1 > (0 : Int)))
        (Option.bind (heap_Pop_p0 z21.2) fun y22 => out1 y22
          (fun z23 =>
            ck (inB z23.1 (x.2.2.1.length)) <|
            let v1 := x.1.2.1 ++ [rdL (.lst (.int .i64)) x.2.2.1 z23.1]
            ck (roomB v1.length 26) <|
            ck (inB z23.1 (x.2.2.1.length)) <|
            let v2 := rdL (.lst (.int .i64)) x.2.2.1 z23.1
            Option.bind (lim scc_ordered_p0_l64_step ((x.1.1, v1, ()), z23.2.1, (), x.2.2.2.2.1, x.2.2.2.2.2.1, x.2.2.2.2.2.2.1, z23.1, v2, (v2.length : Int), (0 : Int), ())) fun y33 => out1 y33
              (fun z34 =>
                g (z34.1, z34.2.1, x.2.2.1, (), z34.2.2.1, z34.2.2.2.1, x.2.2.2.2.2.2))))
        (some (.inl (x.1, z21.2.1, x.2.2.2.2.1, x.2.2.2.2.2.1, ()))))
noncomputable def k36l10 : LCtr := ⟨[7, 17, 1, 2, 8, 13, 20], (.cons (.ptr 0 (.cons (.own (.int .i64)) (.cons (.own (.lst (.int .i64))) .nil))) (.cons (.ptr 0 q21) (.cons (.val (.lst (.lst (.int .i64)))) (.cons (.cst true) (.cons (.own (.int .i64)) (.cons (.own (.int .i64)) (.cons (.val (.ptr (.cons (.int .i64) (.cons (.lst t_easementref08_Pair) (.cons (.lst (.int .i32)) (.cons (.lst (.int .i32)) (.cons (.lst (.int .i32)) (.cons (.lst (.int .i32)) .nil)))))))) .nil))))))), [some 0, some 1, none, some 3, none, some 5, some 6], [0, 1, 2, 7], [⟨(.exit 8), [7, 17, 8, 13], q38, [some 0, some 1, none, some 3, none, some 5, some 6]⟩], fun _ => [], lim scc_ordered_p0_l56_step⟩
theorem k36s : LsOK Try.prog Try.f40.ntmps (codeOf Try.f40) [(56, k36l10), (64, k36l9), (72, k36l8), (5505397, k36l7), (44, k36l6), (3277003, k36l5), (28, k36l4), (2359453, k36l3), (8, k36l2), (14, k36l1)] := loop_E 56 k36l10 k36 (loop_E 64 k36l9 k36 (loop_E 72 k36l8 k36 (join_E 5505397 k36l7 k36 (loop_E 44 k36l6 k36 (join_E 3277003 k36l5 k36 (loop_E 28 k36l4 k36 (join_E 2359453 k36l3 k36 (loop_E 8 k36l2 k36 (loop_E 14 k36l1 k36 trivial (by kernel_rfl) rfl (fun g x => by kernel_rfl)) (by kernel_rfl) rfl (fun g x => by kernel_rfl)) (by kernel_rfl) (fun x => by kernel_rfl)) (by kernel_rfl) rfl (fun g x => by kernel_rfl)) (by kernel_rfl) (fun x => by kernel_rfl)) (by kernel_rfl) rfl (fun g x => by kernel_rfl)) (by kernel_rfl) (fun x => by kernel_rfl)) (by kernel_rfl) rfl (fun g x => by kernel_rfl)) (by kernel_rfl) rfl (fun g x => by kernel_rfl)) (by kernel_rfl) rfl (fun g x => by kernel_rfl)
noncomputable def scc_ordered_p0 (x : ((Option V_graph_Graph) × (List (List Int)) × Unit × Unit)) : Option ((V_scc_Parts × Unit) ⊕ Empty) :=
  Option.bind (graph_Graph_Nodes (x.1, ())) fun y1 =>
  ck (decide (0 ≤ y1.1) && decide (y1.1 ≤ y1.1) && decide (y1.1 * ((10 : Nat) : Int) ≤ 35184372088832)) <|
  Option.bind (graph_Graph_Nodes (x.1, ())) fun y2 =>
  ck (decide (0 ≤ y2.1) && decide (y2.1 ≤ y2.1) && decide (y2.1 * ((10 : Nat) : Int) ≤ 35184372088832)) <|
  Option.bind (lim scc_ordered_p0_l8_step (List.replicate y2.1.toNat ((0 : Int) : Int), x.2.1, (x.2.1.length : Int), (0 : Int), ())) fun y5 => out1 y5
    (fun z6 =>
      ck (decide (0 ≤ (x.2.1.length : Int)) && decide ((x.2.1.length : Int) ≤ (x.2.1.length : Int)) && decide ((x.2.1.length : Int) * ((10 : Nat) : Int) ≤ 35184372088832)) <|
      Option.bind (graph_Graph_Arcs (x.1, ())) fun y7 =>
      Option.bind (lim scc_ordered_p0_l28_step (x.1, z6.1, List.replicate (x.2.1.length : Int).toNat ((0 : Int) : Int), y7.1, (0 : Int), ())) fun y11 => out1 y11
        (fun z12 =>
          Option.bind (lim scc_ordered_p0_l44_step ((x.2.1, ([] : List Int), ()), z12.2.1, (z12.2.1.length : Int), (0 : Int), ())) fun y17 => out1 y17
            (fun z18 =>
              Option.bind (graph_Graph_Turn (x.1, ())) fun y19 =>
              Option.bind (lim scc_ordered_p0_l56_step ((List.replicate y1.1.toNat ((0 : Int) : Int), ([] : List (List Int)), ()), z18.1, x.2.1, (), z12.1, z18.2.1, y19)) fun y35 => out1 y35
                (fun z36 =>
                  some (.inl (z36.1, ()))))))
noncomputable def k36L : LCtr := ⟨[0, 1, 2], (.cons (.val (.ptr (.cons (.int .i64) (.cons (.lst t_easementref08_Pair) (.cons (.lst (.int .i32)) (.cons (.lst (.int .i32)) (.cons (.lst (.int .i32)) (.cons (.lst (.int .i32)) .nil)))))))) (.cons (.val (.lst (.lst (.int .i64)))) (.cons (.cst true) .nil))), [], [], [⟨.ret, [6], q41, [none, none, none]⟩], fun _ => [], scc_ordered_p0⟩
noncomputable def scc_ordered_p0_c : PI := mkPI Try.f40 k36L
theorem scc_ordered_p0_ok : PIOK Try.prog 40 scc_ordered_p0_c := proc_E k36 Try.func40 k36s (by kernel_rfl) (fun x => by kernel_rfl)
/-! ### easement/scc.Of: function 10, at objects -/
noncomputable def k37 : FE Try.prog := ⟨[(37, graph_Graph_Nodes_c)], [(38, [scc_finder_goes_p0_c]), (39, [tick_Counter_Add_p0_c]), (40, [scc_ordered_p0_c])], [(47, [1])], [], ⟨graph_Graph_Nodes_ok, trivial⟩, ⟨⟨scc_finder_goes_p0_ok, trivial⟩, ⟨tick_Counter_Add_p0_ok, trivial⟩, ⟨scc_ordered_p0_ok, trivial⟩, trivial⟩, trivial⟩
noncomputable def scc_Of_p0_j61_v (x : (V_scc_finder × Int × Bool × Unit)) : Option ((V_scc_finder × Unit) ⊕ Empty) :=
  cond (x.2.2.1)
    (Option.bind (scc_finder_goes_p0 (x.1, x.2.1, ())) fun y2 => out1 y2
      (fun z3 =>
        some (.inl z3)))
    (some (.inl (x.1, ())))
noncomputable def k37l1 : LCtr := ⟨[6, 7, 30], q42, [], [6, 19, 20], [⟨.normal, [6], (.cons (.ptr 0 q10) .nil), [some 0, some 1, some 2, none, some 4, none, none]⟩], fun _ => [], scc_Of_p0_j61_v⟩
noncomputable def scc_Of_p0_l8_step (g : (V_scc_finder × Int × Int × Unit) → Option ((V_scc_finder × Unit) ⊕ Empty)) (x : (V_scc_finder × Int × Int × Unit)) : Option ((V_scc_finder × Unit) ⊕ Empty) :=
  cond (decide (x.2.2.1 < x.2.1))
    (ck (inB x.2.2.1 (x.1.2.1.length)) <|
    Option.bind (scc_Of_p0_j61_v (x.1, x.2.2.1, (x.1.2.1.getD x.2.2.1.toNat (Ty.dflt (.int .i64))) == (0 : Int), ())) fun y4 => out1 y4
      (fun z5 =>
        g (z5.1, x.2.1, IntKind.i64.wrap (x.2.2.1 + (1 : Int)), ())))
    (some (.inl (x.1, ())))
noncomputable def k37l2 : LCtr := ⟨[6, 19, 20], q43, [some 0, some 1, some 2, none, some 4, none, none], [0, 1, 6], [⟨(.exit 0), [6], (.cons (.ptr 0 q10) .nil), [some 0, some 1, some 2, none, some 4, none, none]⟩], fun _ => [], lim scc_Of_p0_l8_step⟩
theorem k37s : LsOK Try.prog Try.f10.ntmps (codeOf Try.f10) [(8, k37l2), (917565, k37l1)] := loop_E 8 k37l2 k37 (join_E 917565 k37l1 k37 trivial (by kernel_rfl) (fun x => by kernel_rfl)) (by kernel_rfl) rfl (fun g x => by kernel_rfl)
noncomputable def scc_Of_p0 (x : ((Option V_graph_Graph) × Unit × Unit)) : Option ((V_scc_Parts × Unit) ⊕ Empty) :=
  Option.bind (graph_Graph_Nodes (x.1, ())) fun y1 =>
  ck (decide (0 ≤ y1.1) && decide (y1.1 ≤ y1.1) && decide (y1.1 * ((10 : Nat) : Int) ≤ 35184372088832)) <|
  ck (decide (0 ≤ y1.1) && decide (y1.1 ≤ y1.1) && decide (y1.1 * ((10 : Nat) : Int) ≤ 35184372088832)) <|
  ck (decide (0 ≤ y1.1) && decide (y1.1 ≤ y1.1) && decide (y1.1 * ((10 : Nat) : Int) ≤ 35184372088832)) <|
  Option.bind (lim scc_Of_p0_l8_step ((x.1, List.replicate y1.1.toNat ((0 : Int) : Int), List.replicate y1.1.toNat ((0 : Int) : Int), ([] : List Int), List.replicate y1.1.toNat ((0 : Int) : Int), ([] : List V_scc_call), ([] : List (List Int)), (0 : Int), ()), y1.1, (0 : Int), ())) fun y6 => out1 y6
    (fun z7 =>
      Option.bind (tick_Counter_Add_p0 ((), (4 : Int), z7.1.2.2.2.2.2.2.2)) fun y8 => out1 y8
        (fun z9 =>
          Option.bind (scc_ordered_p0 (x.1, z7.1.2.2.2.2.2.2.1, (), ())) fun y10 => out1 y10
            (fun z11 =>
              some (.inl z11))))
noncomputable def k37L : LCtr := ⟨[0, 1], (.cons (.val (.ptr (.cons (.int .i64) (.cons (.lst t_easementref08_Pair) (.cons (.lst (.int .i32)) (.cons (.lst (.int .i32)) (.cons (.lst (.int .i32)) (.cons (.lst (.int .i32)) .nil)))))))) (.cons (.cst true) .nil)), [], [], [⟨.ret, [4], q41, [none, none, none]⟩], fun _ => [], scc_Of_p0⟩
noncomputable def scc_Of_p0_c : PI := mkPI Try.f10 k37L
theorem scc_Of_p0_ok : PIOK Try.prog 10 scc_Of_p0_c := proc_E k37 Try.func10 k37s (by kernel_rfl) (fun x => by kernel_rfl)
/-! ### (*easement/scc.Parts).Len: function 12 -/
noncomputable def scc_Parts_Len (x : ((Option V_scc_Parts) × Unit)) : Option (Int × Unit) :=
  cond (x.1.isNone)
    (some ((0 : Int), ()))
    (ck (x.1.isSome) <|
    some (((x.1.getD (Ty.dflt (.cons (.lst (.int .i64)) (.cons (.lst (.lst (.int .i64))) .nil)))).2.1.length : Int), ()))
noncomputable def scc_Parts_Len_c : Ctr := ⟨(.cons (.ptr (.cons (.lst (.int .i64)) (.cons (.lst (.lst (.int .i64))) .nil))) .nil), (.cons (.int .i64) .nil), scc_Parts_Len, none⟩
theorem scc_Parts_Len_ok : CtrOK Try.prog 12 scc_Parts_Len_c := fun_E (ls := []) k0 Try.func12 trivial (by kernel_rfl) (fun x => by kernel_rfl)
/-! ### slices.Clone[[]int,int]: function 41 -/
noncomputable def slices_Clone_Lint_int (x : ((List Int) × Unit)) : Option ((List Int) × Unit) :=
  cond (x.1.isEmpty) (agree
    (some (([] : List Int), ()))
    (ck (roomB (([] : List Int) ++ x.1).length 10) <|
    some (([] : List Int) ++ x.1, ())))
    (ck (roomB (([] : List Int) ++ x.1).length 10) <|
    some (([] : List Int) ++ x.1, ()))
noncomputable def slices_Clone_Lint_int_c : Ctr := ⟨(.cons (.lst (.int .i64)) .nil), (.cons (.lst (.int .i64)) .nil), slices_Clone_Lint_int, none⟩
theorem slices_Clone_Lint_int_ok : CtrOK Try.prog 41 slices_Clone_Lint_int_c := fun_E (ls := []) k0 Try.func41 trivial (by kernel_rfl) (fun x => by kernel_rfl)
/-! ### (*easement/scc.Parts).Members: function 13 -/
noncomputable def k40 : FE Try.prog := ⟨[(12, scc_Parts_Len_c), (41, slices_Clone_Lint_int_c)], [], [], [], ⟨scc_Parts_Len_ok, slices_Clone_Lint_int_ok, trivial⟩, trivial, trivial⟩
noncomputable def scc_Parts_Members (x : ((Option V_scc_Parts) × Int × Unit)) : Option ((List Int) × Unit) :=
  cond (!(decide (x.2.1 < (0 : Int))))
    (Option.bind (scc_Parts_Len (x.1, ())) fun y1 =>
    cond (decide (x.2.1 ≥ y1.1))
      (some (([] : List Int), ()))
      (ck (x.1.isSome) <|
      let v1 := (x.1.getD (Ty.dflt (.cons (.lst (.int .i64)) (.cons (.lst (.lst (.int .i64))) .nil)))).2.1
      ck (inB x.2.1 (v1.length)) <|
      Option.bind (slices_Clone_Lint_int (rdL (.lst (.int .i64)) v1 x.2.1, ())) fun y2 =>
      some y2))
    (some (([] : List Int), ()))
noncomputable def scc_Parts_Members_c : Ctr := ⟨(.cons (.ptr (.cons (.lst (.int .i64)) (.cons (.lst (.lst (.int .i64))) .nil))) (.cons (.int .i64) .nil)), (.cons (.lst (.int .i64)) .nil), scc_Parts_Members, none⟩
theorem scc_Parts_Members_ok : CtrOK Try.prog 13 scc_Parts_Members_c := fun_E (ls := []) k40 Try.func13 trivial (by kernel_rfl) (fun x => by kernel_rfl)
/-! ### easement/easementref01.Same: function 22 -/
noncomputable def ref01_Same_l8_step (g : ((List Int) × (List Int) × Int × Unit) → Option ((Bool × Unit) ⊕ (Unit ⊕ Empty))) (x : ((List Int) × (List Int) × Int × Unit)) : Option ((Bool × Unit) ⊕ (Unit ⊕ Empty)) :=
  cond (decide (x.2.2.1 < (x.1.length : Int)))
    (ck (inB x.2.2.1 (x.1.length)) <|
    ck (inB x.2.2.1 (x.2.1.length)) <|
    cond ((rdL (.int .i64) x.1 x.2.2.1) != (rdL (.int .i64) x.2.1 x.2.2.1))
      (some (.inl (false, ())))
      (g (x.1, x.2.1, IntKind.i64.wrap (x.2.2.1 + (1 : Int)), ())))
    (some (.inr (.inl ())))
noncomputable def k41l1 : LCtr := ⟨[0, 1, 5], (.cons (.val (.lst (.int .i64))) (.cons (.val (.lst (.int .i64))) (.cons (.val (.int .i64)) .nil))), [], [], [⟨.ret, [4], (.cons (.val .bool) .nil), []⟩, ⟨(.exit 0), [], .nil, []⟩], fun _ => [], lim ref01_Same_l8_step⟩
theorem k41s : LsOK Try.prog Try.f22.ntmps (codeOf Try.f22) [(8, k41l1)] := loop_E 8 k41l1 k0 trivial (by kernel_rfl) rfl (fun g x => by kernel_rfl)
noncomputable def ref01_Same (x : ((List Int) × (List Int) × Unit)) : Option (Bool × Unit) :=
  cond ((x.1.length : Int) != (x.2.1.length : Int))
    (some (false, ()))
    (Option.bind (lim ref01_Same_l8_step (x.1, x.2.1, (0 : Int), ())) fun y1 => out2 y1
      (fun z2 =>
        some z2)
      (fun z3 =>
        some (true, ())))
noncomputable def ref01_Same_c : Ctr := ⟨(.cons (.lst (.int .i64)) (.cons (.lst (.int .i64)) .nil)), (.cons .bool .nil), ref01_Same, none⟩
theorem ref01_Same_ok : CtrOK Try.prog 22 ref01_Same_c := fun_E k0 Try.func22 k41s (by kernel_rfl) (fun x => by kernel_rfl)
/-! ### easement/easementlaw11.awake: function 8 -/
noncomputable def k42 : FE Try.prog := ⟨[(9, law10_Of_c), (12, scc_Parts_Len_c), (13, scc_Parts_Members_c), (22, ref01_Same_c)], [(10, [scc_Of_p0_c])], [(1000003, [3, 14])], [], ⟨law10_Of_ok, scc_Parts_Len_ok, scc_Parts_Members_ok, ref01_Same_ok, trivial⟩, ⟨⟨scc_Of_p0_ok, trivial⟩, trivial⟩, trivial⟩
noncomputable def law11_awake (x : Unit) : Option (Bool × Unit) :=
  Option.bind (law10_Of ((4 : Int), [((0 : Int), (1 : Int), ()), ((1 : Int), (0 : Int), ()), ((1 : Int), (2 : Int), ()), ((3 : Int), (0 : Int), ())], ())) fun y1 =>
  Option.bind (scc_Of_p0 (y1.1, (), ())) fun y2 => out1 y2
    (fun z3 =>
      cond (y1.2.1 == (0 : Int))
        (Option.bind (scc_Parts_Len (some z3.1, ())) fun y4 =>
        cond (y4.1 == (3 : Int))
          (Option.bind (scc_Parts_Members (some z3.1, (0 : Int), ())) fun y5 =>
          Option.bind (ref01_Same (y5.1, [(2 : Int)], ())) fun y6 =>
          cond (y6.1)
            (Option.bind (scc_Parts_Members (some z3.1, (1 : Int), ())) fun y7 =>
            Option.bind (ref01_Same (y7.1, [(0 : Int), (1 : Int)], ())) fun y8 =>
            cond (y8.1)
              (Option.bind (scc_Parts_Members (some z3.1, (2 : Int), ())) fun y9 =>
              Option.bind (ref01_Same (y9.1, [(3 : Int)], ())) fun y10 =>
              some y10)
              (some (false, ())))
            (some (false, ())))
          (some (false, ())))
        (some (false, ())))
noncomputable def law11_awake_c : Ctr := ⟨.nil, (.cons .bool .nil), law11_awake, none⟩
theorem law11_awake_ok : CtrOK Try.prog 8 law11_awake_c := fun_E (ls := []) k42 Try.func8 trivial (by kernel_rfl) (fun x => by kernel_rfl)
/-! ### (*easement/scc.Parts).Of: function 11, at objects -/
noncomputable def scc_Parts_Of_p0 (x : (V_scc_Parts × Int × Unit)) : Option ((Int × Bool × V_scc_Parts × Unit) ⊕ Empty) :=
  cond (cond (decide (x.2.1 < (0 : Int))) true (decide (x.2.1 ≥ (x.1.1.length : Int))))
    (some (.inl ((0 : Int), false, x.1, ())))
    (ck (inB x.2.1 (x.1.1.length)) <|
    some (.inl (x.1.1.getD x.2.1.toNat (Ty.dflt (.int .i64)), true, x.1, ())))
noncomputable def k43L : LCtr := ⟨[0, 1], q46, [], [], [⟨.ret, [4, 5, 0], (.cons (.val (.int .i64)) (.cons (.val .bool) (.cons (.ptr 0 (.cons (.own (.int .i64)) (.cons (.own (.lst (.int .i64))) .nil))) .nil))), [some 0, some 1, some 2]⟩], fun _ => [], scc_Parts_Of_p0⟩
noncomputable def scc_Parts_Of_p0_c : PI := mkPI Try.f11 k43L
theorem scc_Parts_Of_p0_ok : PIOK Try.prog 11 scc_Parts_Of_p0_c := proc_E (ls := []) k0 Try.func11 trivial (by kernel_rfl) (fun x => by kernel_rfl)
/-! ### (*easement/scc.Parts).Len: function 12, at objects -/
noncomputable def scc_Parts_Len_p0 (x : (V_scc_Parts × Unit)) : Option ((Int × V_scc_Parts × Unit) ⊕ Empty) :=
  some (.inl ((x.1.2.1.length : Int), x))
noncomputable def k44L : LCtr := ⟨[0], q41, [], [], [⟨.ret, [2, 0], q48, [some 0, some 1, some 2]⟩], fun _ => [], scc_Parts_Len_p0⟩
noncomputable def scc_Parts_Len_p0_c : PI := mkPI Try.f12 k44L
theorem scc_Parts_Len_p0_ok : PIOK Try.prog 12 scc_Parts_Len_p0_c := proc_E (ls := []) k0 Try.func12 trivial (by kernel_rfl) (fun x => by kernel_rfl)
/-! ### slices.Clone[[]int,int]: function 41, at objects -/
noncomputable def slices_Clone_Lint_int_p0 (x : V_point_Points) : Option (V_point_Points ⊕ Empty) :=
  cond (x.1.isEmpty) (agree
    (some (.inl (([] : List Int), ())))
    (ck (roomB (([] : List Int) ++ x.1).length 10) <|
    some (.inl (([] : List Int) ++ x.1, ()))))
    (ck (roomB (([] : List Int) ++ x.1).length 10) <|
    some (.inl (([] : List Int) ++ x.1, ())))
noncomputable def k45L : LCtr := ⟨[0], (.cons (.val (.lst (.int .i64))) .nil), [], [], [⟨.ret, [2], (.cons (.own (.int .i64)) .nil), [none]⟩], fun _ => [], slices_Clone_Lint_int_p0⟩
noncomputable def slices_Clone_Lint_int_p0_c : PI := mkPI Try.f41 k45L
theorem slices_Clone_Lint_int_p0_ok : PIOK Try.prog 41 slices_Clone_Lint_int_p0_c := proc_E (ls := []) k0 Try.func41 trivial (by kernel_rfl) (fun x => by kernel_rfl)
/-! ### (*easement/scc.Parts).Members: function 13, at objects -/
noncomputable def k46 : FE Try.prog := ⟨[(12, scc_Parts_Len_c)], [(41, [slices_Clone_Lint_int_p0_c])], [], [], ⟨scc_Parts_Len_ok, trivial⟩, ⟨⟨slices_Clone_Lint_int_p0_ok, trivial⟩, trivial⟩, trivial⟩
noncomputable def scc_Parts_Members_p0 (x : (V_scc_Parts × Int × Unit)) : Option (((List Int) × V_scc_Parts × Unit) ⊕ Empty) :=
  cond (!(decide (x.2.1 < (0 : Int))))
    (Option.bind (scc_Parts_Len (some x.1, ())) fun y1 =>
    cond (decide (x.2.1 ≥ y1.1))
      (some (.inl (([] : List Int), x.1, ())))
      (ck (inB x.2.1 (x.1.2.1.length)) <|
      Option.bind (slices_Clone_Lint_int_p0 (x.1.2.1.getD x.2.1.toNat (Ty.dflt (.lst (.int .i64))), ())) fun y2 => out1 y2
        (fun z3 =>
          some (.inl (z3.1, x.1, ())))))
    (some (.inl (([] : List Int), x.1, ())))
noncomputable def k46L : LCtr := ⟨[0, 1], q46, [], [], [⟨.ret, [4, 0], (.cons (.own (.int .i64)) (.cons (.ptr 0 (.cons (.own (.int .i64)) (.cons (.own (.lst (.int .i64))) .nil))) .nil)), [none, some 0, some 1, some 2]⟩], fun _ => [], scc_Parts_Members_p0⟩
noncomputable def scc_Parts_Members_p0_c : PI := mkPI Try.f13 k46L
theorem scc_Parts_Members_p0_ok : PIOK Try.prog 13 scc_Parts_Members_p0_c := proc_E (ls := []) k46 Try.func13 trivial (by kernel_rfl) (fun x => by kernel_rfl)
/-! ### (*easement/scc.Parts).Alike: function 14, at objects -/
noncomputable def k47 : FE Try.prog := ⟨[], [(11, [scc_Parts_Of_p0_c])], [], [], trivial, ⟨⟨scc_Parts_Of_p0_ok, trivial⟩, trivial⟩, trivial⟩
noncomputable def scc_Parts_Alike_p0 (x : (V_scc_Parts × Int × Int × Unit)) : Option ((Bool × V_scc_Parts × Unit) ⊕ Empty) :=
  Option.bind (scc_Parts_Of_p0 (x.1, x.2.1, ())) fun y1 => out1 y1
    (fun z2 =>
      Option.bind (scc_Parts_Of_p0 (z2.2.2.1, x.2.2)) fun y3 => out1 y3
        (fun z4 =>
          some (.inl (cond (cond z2.2.1 z4.2.1 false) (z2.1 == z4.1) false, z4.2.2))))
noncomputable def k47L : LCtr := ⟨[0, 1, 2], (.cons (.ptr 0 (.cons (.own (.int .i64)) (.cons (.own (.lst (.int .i64))) .nil))) (.cons (.val (.int .i64)) (.cons (.val (.int .i64)) .nil))), [], [], [⟨.ret, [6, 0], q51, [some 0, some 1, some 2]⟩], fun _ => [], scc_Parts_Alike_p0⟩
noncomputable def scc_Parts_Alike_p0_c : PI := mkPI Try.f14 k47L
theorem scc_Parts_Alike_p0_ok : PIOK Try.prog 14 scc_Parts_Alike_p0_c := proc_E (ls := []) k47 Try.func14 trivial (by kernel_rfl) (fun x => by kernel_rfl)
/-! ### easement/easementref10.Reach: function 42 -/
noncomputable def ref10_Reach_j83_v (x : ((List V_easementref08_Pair) × (List Int) × Bool × Int × Bool × Unit)) : Option ((Bool × (List Int) × Unit) ⊕ Empty) :=
  cond (x.2.2.2.2.1)
    (ck (inB x.2.2.2.1 (x.1.length)) <|
    let v1 := (rdL t_easementref08_Pair x.1 x.2.2.2.1).2.1
    ck (inB v1 (x.2.1.length)) <|
    some (.inl (true, x.2.1.set v1.toNat (1 : Int), ())))
    (some (.inl (x.2.2.1, x.2.1, ())))
noncomputable def k48l1 : LCtr := ⟨[1, 7, 8, 9, 41], (.cons (.val (.lst t_easementref08_Pair)) (.cons (.own (.int .i64)) (.cons (.val .bool) (.cons (.val (.int .i64)) (.cons (.val .bool) .nil))))), [], [1, 7, 9], [⟨.normal, [8, 7], (.cons (.val .bool) (.cons (.own (.int .i64)) .nil)), [some 0]⟩], fun _ => [], ref10_Reach_j83_v⟩
noncomputable def ref10_Reach_l14_step (g : T15 → Option ((Bool × (List Int) × Unit) ⊕ Empty)) (x : T15) : Option ((Bool × (List Int) × Unit) ⊕ Empty) :=
  cond (decide (x.2.2.2.1 < (x.1.length : Int)))
    (ck (inB x.2.2.2.1 (x.1.length)) <|
    let v1 := (rdL t_easementref08_Pair x.1 x.2.2.2.1).1
    ck (inB v1 (x.2.1.length)) <|
    let v2 := (x.2.1.getD v1.toNat (Ty.dflt (.int .i64))) == (1 : Int)
    ck ((inB x.2.2.2.1 (x.1.length)) || !v2) <|
    let v3 := (rdL t_easementref08_Pair x.1 x.2.2.2.1).2.1
    ck ((inB v3 (x.2.1.length)) || !v2) <|
    Option.bind (ref10_Reach_j83_v (x.1, x.2.1, x.2.2.1, x.2.2.2.1, cond v2 ((x.2.1.getD v3.toNat (Ty.dflt (.int .i64))) == (0 : Int)) false, ())) fun y1 => out1 y1
      (fun z2 =>
        g (x.1, z2.2.1, z2.1, IntKind.i64.wrap (x.2.2.2.1 + (1 : Int)), ())))
    (some (.inl (x.2.2.1, x.2.1, ())))
noncomputable def k48l2 : LCtr := ⟨[1, 7, 8, 9], (.cons (.val (.lst t_easementref08_Pair)) (.cons (.own (.int .i64)) (.cons (.val .bool) (.cons (.val (.int .i64)) .nil)))), [some 0], [1, 7], [⟨(.exit 2), [8, 7], (.cons (.val .bool) (.cons (.own (.int .i64)) .nil)), [some 0]⟩], fun _ => [], lim ref10_Reach_l14_step⟩
noncomputable def ref10_Reach_l8_step (g : ((List V_easementref08_Pair) × (List Int) × Bool × Unit) → Option (V_point_Points ⊕ Empty)) (x : ((List V_easementref08_Pair) × (List Int) × Bool × Unit)) : Option (V_point_Points ⊕ Empty) :=
  cond (x.2.2.1)
    (Option.bind (lim ref10_Reach_l14_step (x.1, x.2.1, false, (0 : Int), ())) fun y3 => out1 y3
      (fun z4 =>
        g (x.1, z4.2.1, z4.1, ())))
    (some (.inl (x.2.1, ())))
noncomputable def k48l3 : LCtr := ⟨[1, 7, 8], (.cons (.val (.lst t_easementref08_Pair)) (.cons (.own (.int .i64)) (.cons (.val .bool) .nil))), [some 0], [7], [⟨(.exit 0), [7], (.cons (.own (.int .i64)) .nil), [some 0]⟩], fun _ => [], lim ref10_Reach_l8_step⟩
theorem k48s : LsOK Try.prog Try.f42.ntmps (codeOf Try.f42) [(8, k48l3), (14, k48l2), (1310803, k48l1)] := loop_E 8 k48l3 k0 (loop_E 14 k48l2 k0 (join_E 1310803 k48l1 k0 trivial (by kernel_rfl) (fun x => by kernel_rfl)) (by kernel_rfl) rfl (fun g x => by kernel_rfl)) (by kernel_rfl) rfl (fun g x => by kernel_rfl)
noncomputable def ref10_Reach (x : (Int × (List V_easementref08_Pair) × Int × Unit)) : Option ((List Int) × Unit) :=
  ck (decide (0 ≤ x.1) && decide (x.1 ≤ x.1) && decide (x.1 * ((10 : Nat) : Int) ≤ 35184372088832)) <|
  let v1 := List.replicate x.1.toNat ((0 : Int) : Int)
  ck (inB x.2.2.1 (v1.length)) <|
  Option.bind (lim ref10_Reach_l8_step (x.2.1, v1.set x.2.2.1.toNat (1 : Int), true, ())) fun y5 => out1 y5
    (fun z6 =>
      some z6)
noncomputable def ref10_Reach_c : Ctr := ⟨(.cons (.int .i64) (.cons (.lst t_easementref08_Pair) (.cons (.int .i64) .nil))), (.cons (.lst (.int .i64)) .nil), ref10_Reach, none⟩
theorem ref10_Reach_ok : CtrOK Try.prog 42 ref10_Reach_c := fun_E k0 Try.func42 k48s (by kernel_rfl) (fun x => by kernel_rfl)
/-! ### easement/easementref11.Alike: function 15 -/
noncomputable def k49 : FE Try.prog := ⟨[(42, ref10_Reach_c)], [], [], [], ⟨ref10_Reach_ok, trivial⟩, trivial, trivial⟩
noncomputable def ref11_Alike (x : (Int × (List V_easementref08_Pair) × Int × Int × Unit)) : Option (Bool × Unit) :=
  Option.bind (ref10_Reach (x.1, x.2.1, x.2.2.1, ())) fun y1 =>
  ck (inB x.2.2.2.1 (y1.1.length)) <|
  let v1 := (rdL (.int .i64) y1.1 x.2.2.2.1) == (1 : Int)
  cond (v1)
    (Option.bind (ref10_Reach (x.1, x.2.1, x.2.2.2)) fun y2 =>
    ck ((inB x.2.2.1 (y2.1.length)) || !v1) <|
    some ((rdL (.int .i64) y2.1 x.2.2.1) == (1 : Int), ()))
    (ck ((inB x.2.2.1 ((Ty.dflt (.cons (.lst (.int .i64)) .nil)).1.length)) || !v1) <|
    some (false, ()))
noncomputable def ref11_Alike_c : Ctr := ⟨(.cons (.int .i64) (.cons (.lst t_easementref08_Pair) (.cons (.int .i64) (.cons (.int .i64) .nil)))), (.cons .bool .nil), ref11_Alike, none⟩
theorem ref11_Alike_ok : CtrOK Try.prog 15 ref11_Alike_c := fun_E (ls := []) k49 Try.func15 trivial (by kernel_rfl) (fun x => by kernel_rfl)
/-! ### easement/easementlaw11.SccOrder: function 3 -/
noncomputable def k50 : FE Try.prog := ⟨[(8, law11_awake_c), (9, law10_Of_c), (15, ref11_Alike_c)], [(10, [scc_Of_p0_c]), (11, [scc_Parts_Of_p0_c]), (12, [scc_Parts_Len_p0_c]), (13, [scc_Parts_Members_p0_c]), (14, [scc_Parts_Alike_p0_c])], [], [], ⟨law11_awake_ok, law10_Of_ok, ref11_Alike_ok, trivial⟩, ⟨⟨scc_Of_p0_ok, trivial⟩, ⟨scc_Parts_Of_p0_ok, trivial⟩, ⟨scc_Parts_Len_p0_ok, trivial⟩, ⟨scc_Parts_Members_p0_ok, trivial⟩, ⟨scc_Parts_Alike_p0_ok, trivial⟩, trivial⟩, trivial⟩
noncomputable def law11_SccOrder_l16_step (g : (V_scc_Parts × (List V_easementref08_Pair) × Int × Unit) → Option T16) (x : (V_scc_Parts × (List V_easementref08_Pair) × Int × Unit)) : Option T16 :=
  cond (decide (x.2.2.1 < (x.2.1.length : Int)))
    (ck (inB x.2.2.1 (x.2.1.length)) <|
    Option.bind (scc_Parts_Of_p0 (x.1, (rdL t_easementref08_Pair x.2.1 x.2.2.1).1, ())) fun y6 => out1 y6
      (fun z7 =>
        ck (inB x.2.2.1 (x.2.1.length)) <|
        Option.bind (scc_Parts_Of_p0 (z7.2.2.1, (rdL t_easementref08_Pair x.2.1 x.2.2.1).2)) fun y8 => out1 y8
          (fun z9 =>
            cond (decide (z9.1 > z7.1))
              (some (.inl (false, z9.2.2)))
              (g (z9.2.2.1, x.2.1, IntKind.i64.wrap (x.2.2.1 + (1 : Int)), ())))))
    (some (.inr (.inl (x.1, ()))))
noncomputable def k50l1 : LCtr := ⟨[7, 1, 8], (.cons (.ptr 0 (.cons (.own (.int .i64)) (.cons (.own (.lst (.int .i64))) .nil))) (.cons (.val (.lst t_easementref08_Pair)) (.cons (.val (.int .i64)) .nil))), [some 0, some 1, some 2], [0, 1, 7], [⟨.ret, [4, 7], q51, [some 0, some 1, some 2]⟩, ⟨(.exit 0), [7], q41, [some 0, some 1, some 2]⟩], fun _ => [], lim law11_SccOrder_l16_step⟩
noncomputable def law11_SccOrder_l46_step (g : T17 → Option T18) (x : T17) : Option T18 :=
  cond (decide (x.2.2.2.2.1 < (x.2.2.2.1.length : Int)))
    (ck (inB (0 : Int) (x.2.2.2.1.length)) <|
    ck (inB x.2.2.2.2.1 (x.2.2.2.1.length)) <|
    Option.bind (scc_Parts_Alike_p0 (x.1, x.2.2.2.1.getD (0 : Int).toNat (Ty.dflt (.int .i64)), x.2.2.2.1.getD x.2.2.2.2.1.toNat (Ty.dflt (.int .i64)), ())) fun y17 => out1 y17
      (fun z18 =>
        ck ((inB x.2.2.2.2.1 (x.2.2.2.1.length)) || !(!(!z18.1))) <|
        let v1 := cond (!z18.1) true (decide ((x.2.2.2.1.getD x.2.2.2.2.1.toNat (Ty.dflt (.int .i64))) < (0 : Int)))
        ck ((inB x.2.2.2.2.1 (x.2.2.2.1.length)) || !(!v1)) <|
        let v2 := cond v1 true (decide ((x.2.2.2.1.getD x.2.2.2.2.1.toNat (Ty.dflt (.int .i64))) ≥ x.2.1))
        ck ((inB (0 : Int) (x.2.2.2.1.length)) || !(!v2)) <|
        ck ((inB x.2.2.2.2.1 (x.2.2.2.1.length)) || !(!v2)) <|
        cond (!v2)
          (Option.bind (ref11_Alike (x.2.1, x.2.2.1, x.2.2.2.1.getD (0 : Int).toNat (Ty.dflt (.int .i64)), x.2.2.2.1.getD x.2.2.2.2.1.toNat (Ty.dflt (.int .i64)), ())) fun y19 =>
          cond (!y19.1)
            (some (.inl (false, z18.2.1, x.2.2.2.1, ())))
            (g (z18.2.1, x.2.1, x.2.2.1, x.2.2.2.1, IntKind.i64.wrap (x.2.2.2.2.1 + (1 : Int)), ())))
          (some (.inl (false, z18.2.1, x.2.2.2.1, ())))))
    (some (.inr (.inl (x.1, x.2.2.2.1, ()))))
noncomputable def k50l2 : LCtr := ⟨[7, 0, 1, 15, 16], (.cons (.ptr 0 (.cons (.own (.int .i64)) (.cons (.own (.lst (.int .i64))) .nil))) (.cons (.val (.int .i64)) (.cons (.val (.lst t_easementref08_Pair)) (.cons (.own (.int .i64)) (.cons (.val (.int .i64)) .nil))))), [some 0, some 1, some 2, some 3], [0, 1, 7, 13, 14], [⟨.ret, [4, 7, 15], (.cons (.val .bool) (.cons (.ptr 0 (.cons (.own (.int .i64)) (.cons (.own (.lst (.int .i64))) .nil))) (.cons (.own (.int .i64)) .nil))), [some 0, some 1, some 2, some 3]⟩, ⟨(.exit 4), [7, 15], (.cons (.ptr 0 (.cons (.own (.int .i64)) (.cons (.own (.lst (.int .i64))) .nil))) (.cons (.own (.int .i64)) .nil)), [some 0, some 1, some 2, some 3]⟩], fun _ => [], lim law11_SccOrder_l46_step⟩
noncomputable def law11_SccOrder_l32_step (g : T19 → Option T20) (x : T19) : Option T20 :=
  Option.bind (scc_Parts_Len_p0 (x.1, ())) fun y13 => out1 y13
    (fun z14 =>
      cond (decide (x.2.2.2.2.1 < z14.1))
        (Option.bind (scc_Parts_Members_p0 (z14.2.1, x.2.2.2.2)) fun y15 => out1 y15
          (fun z16 =>
            cond ((z16.1.length : Int) == (0 : Int))
              (some (.inl (false, z16.2)))
              (Option.bind (lim law11_SccOrder_l46_step (z16.2.1, x.2.1, x.2.2.1, z16.1, (0 : Int), ())) fun y20 => out2 y20
                (fun z21 =>
                  some (.inl (z21.1, z21.2.1, ())))
                (fun z22 =>
                  g (z22.1, x.2.1, x.2.2.1, IntKind.i64.wrap (x.2.2.2.1 + (z16.1.length : Int)), IntKind.i64.wrap (x.2.2.2.2.1 + (1 : Int)), ())))))
        (some (.inr (.inl (x.2.2.2.1, z14.2)))))
noncomputable def k50l3 : LCtr := ⟨[7, 0, 1, 13, 14], (.cons (.ptr 0 (.cons (.own (.int .i64)) (.cons (.own (.lst (.int .i64))) .nil))) (.cons (.val (.int .i64)) (.cons (.val (.lst t_easementref08_Pair)) (.cons (.val (.int .i64)) (.cons (.val (.int .i64)) .nil))))), [some 0, some 1, some 2], [0], [⟨.ret, [4, 7], q51, [some 0, some 1, some 2]⟩, ⟨(.exit 2), [13, 7], q48, [some 0, some 1, some 2]⟩], fun _ => [], lim law11_SccOrder_l32_step⟩
theorem k50s : LsOK Try.prog Try.f3.ntmps (codeOf Try.f3) [(32, k50l3), (46, k50l2), (16, k50l1)] := loop_E 32 k50l3 k50 (loop_E 46 k50l2 k50 (loop_E 16 k50l1 k50 trivial (by kernel_rfl) rfl (fun g x => by kernel_rfl)) (by kernel_rfl) rfl (fun g x => by kernel_rfl)) (by kernel_rfl) rfl (fun g x => by kernel_rfl)
noncomputable def law11_SccOrder (x : (Int × (List V_easementref08_Pair) × Unit)) : Option (Bool × Unit) :=
  cond (cond (decide (x.1 > (14 : Int))) true (decide ((x.2.1.length : Int) > (40 : Int))))
    (Option.bind (law11_awake ()) fun y1 =>
    some y1)
    (Option.bind (law10_Of x) fun y2 =>
    cond (y2.2.1 != (0 : Int))
      (cond (y2.1.isNone)
        (Option.bind (law11_awake ()) fun y3 =>
        some y3)
        (some (false, ())))
      (Option.bind (scc_Of_p0 (y2.1, (), ())) fun y4 => out1 y4
        (fun z5 =>
          Option.bind (lim law11_SccOrder_l16_step (z5.1, x.2.1, (0 : Int), ())) fun y10 => out2 y10
            (fun z11 =>
              some (z11.1, ()))
            (fun z12 =>
              Option.bind (lim law11_SccOrder_l32_step (z12.1, x.1, x.2.1, (0 : Int), (0 : Int), ())) fun y23 => out2 y23
                (fun z24 =>
                  some (z24.1, ()))
                (fun z25 =>
                  cond (z25.1 == x.1)
                    (Option.bind (law11_awake ()) fun y26 =>
                    some y26)
                    (some (false, ())))))))
noncomputable def law11_SccOrder_c : Ctr := ⟨(.cons (.int .i64) (.cons (.lst t_easementref08_Pair) .nil)), (.cons .bool .nil), law11_SccOrder, none⟩
theorem law11_SccOrder_ok : CtrOK Try.prog 3 law11_SccOrder_c := fun_E k50 Try.func3 k50s (by kernel_rfl) (fun x => by kernel_rfl)
/-! ### (*easement/scc.Parts).Of: function 11 -/
noncomputable def scc_Parts_Of (x : ((Option V_scc_Parts) × Int × Unit)) : Option (Int × Bool × Unit) :=
  let v1 := cond (x.1.isNone) true (decide (x.2.1 < (0 : Int)))
  ck ((x.1.isSome) || !(!v1)) <|
  cond (cond v1 true (decide (x.2.1 ≥ ((x.1.getD (Ty.dflt (.cons (.lst (.int .i64)) (.cons (.lst (.lst (.int .i64))) .nil)))).1.length : Int))))
    (some ((0 : Int), false, ()))
    (ck (x.1.isSome) <|
    let v2 := (x.1.getD (Ty.dflt (.cons (.lst (.int .i64)) (.cons (.lst (.lst (.int .i64))) .nil)))).1
    ck (inB x.2.1 (v2.length)) <|
    some (rdL (.int .i64) v2 x.2.1, true, ()))
noncomputable def scc_Parts_Of_c : Ctr := ⟨(.cons (.ptr (.cons (.lst (.int .i64)) (.cons (.lst (.lst (.int .i64))) .nil))) (.cons (.int .i64) .nil)), (.cons (.int .i64) (.cons .bool .nil)), scc_Parts_Of, none⟩
theorem scc_Parts_Of_ok : CtrOK Try.prog 11 scc_Parts_Of_c := fun_E (ls := []) k0 Try.func11 trivial (by kernel_rfl) (fun x => by kernel_rfl)
/-! ### (*easement/scc.Parts).Alike: function 14 -/
noncomputable def k52 : FE Try.prog := ⟨[(11, scc_Parts_Of_c)], [], [], [], ⟨scc_Parts_Of_ok, trivial⟩, trivial, trivial⟩
noncomputable def scc_Parts_Alike (x : ((Option V_scc_Parts) × Int × Int × Unit)) : Option (Bool × Unit) :=
  Option.bind (scc_Parts_Of (x.1, x.2.1, ())) fun y1 =>
  Option.bind (scc_Parts_Of (x.1, x.2.2)) fun y2 =>
  some (cond (cond y1.2.1 y2.2.1 false) (y1.1 == y2.1) false, ())
noncomputable def scc_Parts_Alike_c : Ctr := ⟨(.cons (.ptr (.cons (.lst (.int .i64)) (.cons (.lst (.lst (.int .i64))) .nil))) (.cons (.int .i64) (.cons (.int .i64) .nil))), (.cons .bool .nil), scc_Parts_Alike, none⟩
theorem scc_Parts_Alike_ok : CtrOK Try.prog 14 scc_Parts_Alike_c := fun_E (ls := []) k52 Try.func14 trivial (by kernel_rfl) (fun x => by kernel_rfl)
/-! ### easement/easementlaw11.SccTurns: function 4 -/
noncomputable def k53 : FE Try.prog := ⟨[(8, law11_awake_c), (9, law10_Of_c), (16, graph_Graph_Turn_c), (14, scc_Parts_Alike_c), (12, scc_Parts_Len_c)], [(10, [scc_Of_p0_c]), (14, [scc_Parts_Alike_p0_c]), (12, [scc_Parts_Len_p0_c])], [], [], ⟨law11_awake_ok, law10_Of_ok, graph_Graph_Turn_ok, scc_Parts_Alike_ok, scc_Parts_Len_ok, trivial⟩, ⟨⟨scc_Of_p0_ok, trivial⟩, ⟨scc_Parts_Alike_p0_ok, trivial⟩, ⟨scc_Parts_Len_p0_ok, trivial⟩, trivial⟩, trivial⟩
noncomputable def law11_SccTurns_l28_step (g : T21 → Option T22) (x : T21) : Option T22 :=
  cond (decide (x.2.2.2.2.2.2.1 < x.2.2.2.1))
    (Option.bind (scc_Parts_Alike_p0 (x.1, x.2.2.2.2.2)) fun y12 => out1 y12
      (fun z13 =>
        Option.bind (scc_Parts_Alike_p0 (x.2.1, x.2.2.2.2.2)) fun y14 => out1 y14
          (fun z15 =>
            cond (!(!(z13.1 == z15.1)))
              (cond (x.2.2.2.2.1 == (0 : Int))
                (Option.bind (scc_Parts_Alike (some z13.2.1, x.2.2.2.2.2)) fun y16 =>
                cond (y16.1)
                  (Option.bind (scc_Parts_Alike (some x.2.2.1, x.2.2.2.2.2)) fun y17 =>
                  cond (!y17.1)
                    (some (.inl (false, z13.2.1, z15.2.1, x.2.2.1, ())))
                    (g (z13.2.1, z15.2.1, x.2.2.1, x.2.2.2.1, x.2.2.2.2.1, x.2.2.2.2.2.1, IntKind.i64.wrap (x.2.2.2.2.2.2.1 + (1 : Int)), ())))
                  (g (z13.2.1, z15.2.1, x.2.2.1, x.2.2.2.1, x.2.2.2.2.1, x.2.2.2.2.2.1, IntKind.i64.wrap (x.2.2.2.2.2.2.1 + (1 : Int)), ())))
                (g (z13.2.1, z15.2.1, x.2.2.1, x.2.2.2.1, x.2.2.2.2.1, x.2.2.2.2.2.1, IntKind.i64.wrap (x.2.2.2.2.2.2.1 + (1 : Int)), ())))
              (some (.inl (false, z13.2.1, z15.2.1, x.2.2.1, ()))))))
    (some (.inr (.inl (x.1, x.2.1, x.2.2.1, ()))))
noncomputable def k53l1 : LCtr := ⟨[9, 10, 14, 0, 13, 15, 16], (.cons (.ptr 0 (.cons (.own (.int .i64)) (.cons (.own (.lst (.int .i64))) .nil))) (.cons (.ptr 0 (.cons (.own (.int .i64)) (.cons (.own (.lst (.int .i64))) .nil))) (.cons (.ptr 0 (.cons (.own (.int .i64)) (.cons (.own (.lst (.int .i64))) .nil))) (.cons (.val (.int .i64)) (.cons (.val (.int .i64)) (.cons (.val (.int .i64)) (.cons (.val (.int .i64)) .nil))))))), [some 0, some 1, some 2, some 3, some 4, some 5, some 6, some 7, some 8], [0, 9, 10, 13, 14, 15], [⟨.ret, [6, 9, 10, 14], q61, [some 0, some 1, some 2, some 3, some 4, some 5, some 6, some 7, some 8]⟩, ⟨(.exit 2), [9, 10, 14], q62, [some 0, some 1, some 2, some 3, some 4, some 5, some 6, some 7, some 8]⟩], fun _ => [], lim law11_SccTurns_l28_step⟩
noncomputable def law11_SccTurns_l22_step (g : T23 → Option T22) (x : T23) : Option T22 :=
  cond (decide (x.2.2.2.2.2.1 < x.2.2.2.1))
    (Option.bind (lim law11_SccTurns_l28_step (x.1, x.2.1, x.2.2.1, x.2.2.2.1, x.2.2.2.2.1, x.2.2.2.2.2.1, (0 : Int), ())) fun y18 => out2 y18
      (fun z19 =>
        some (.inl z19))
      (fun z20 =>
        g (z20.1, z20.2.1, z20.2.2.1, x.2.2.2.1, x.2.2.2.2.1, IntKind.i64.wrap (x.2.2.2.2.2.1 + (1 : Int)), ())))
    (some (.inr (.inl (x.1, x.2.1, x.2.2.1, ()))))
noncomputable def k53l2 : LCtr := ⟨[9, 10, 14, 0, 13, 15], (.cons (.ptr 0 (.cons (.own (.int .i64)) (.cons (.own (.lst (.int .i64))) .nil))) (.cons (.ptr 0 (.cons (.own (.int .i64)) (.cons (.own (.lst (.int .i64))) .nil))) (.cons (.ptr 0 (.cons (.own (.int .i64)) (.cons (.own (.lst (.int .i64))) .nil))) (.cons (.val (.int .i64)) (.cons (.val (.int .i64)) (.cons (.val (.int .i64)) .nil)))))), [some 0, some 1, some 2, some 3, some 4, some 5, some 6, some 7, some 8], [9, 10, 13, 14], [⟨.ret, [6, 9, 10, 14], q61, [some 0, some 1, some 2, some 3, some 4, some 5, some 6, some 7, some 8]⟩, ⟨(.exit 0), [9, 10, 14], q62, [some 0, some 1, some 2, some 3, some 4, some 5, some 6, some 7, some 8]⟩], fun _ => [], lim law11_SccTurns_l22_step⟩
theorem k53s : LsOK Try.prog Try.f4.ntmps (codeOf Try.f4) [(22, k53l2), (28, k53l1)] := loop_E 22 k53l2 k53 (loop_E 28 k53l1 k53 trivial (by kernel_rfl) rfl (fun g x => by kernel_rfl)) (by kernel_rfl) rfl (fun g x => by kernel_rfl)
noncomputable def law11_SccTurns (x : (Int × (List V_easementref08_Pair) × V_easementref08_Pair × Unit)) : Option (Bool × Unit) :=
  cond (cond (decide (x.1 > (12 : Int))) true (decide ((x.2.1.length : Int) > (30 : Int))))
    (Option.bind (law11_awake ()) fun y1 =>
    some y1)
    (Option.bind (law10_Of (x.1, x.2.1, ())) fun y2 =>
    cond (y2.2.1 != (0 : Int))
      (Option.bind (law11_awake ()) fun y3 =>
      some y3)
      (Option.bind (scc_Of_p0 (y2.1, (), ())) fun y4 => out1 y4
        (fun z5 =>
          Option.bind (graph_Graph_Turn (y2.1, ())) fun y6 =>
          Option.bind (scc_Of_p0 (y6.1, (), ())) fun y7 => out1 y7
            (fun z8 =>
              let v1 := ([] : List V_easementref08_Pair) ++ x.2.1
              ck (roomB v1.length 19) <|
              ck (roomB (v1 ++ [x.2.2.1]).length 19) <|
              Option.bind (law10_Of (x.1, v1 ++ [x.2.2.1], ())) fun y9 =>
              Option.bind (scc_Of_p0 (y9.1, (), ())) fun y10 => out1 y10
                (fun z11 =>
                  Option.bind (lim law11_SccTurns_l22_step (z5.1, z8.1, z11.1, x.1, y9.2.1, (0 : Int), ())) fun y21 => out2 y21
                    (fun z22 =>
                      some (z22.1, ()))
                    (fun z23 =>
                      Option.bind (scc_Parts_Len_p0 (z23.1, ())) fun y24 => out1 y24
                        (fun z25 =>
                          Option.bind (scc_Parts_Len_p0 (z23.2.1, ())) fun y26 => out1 y26
                            (fun z27 =>
                              cond (z25.1 == z27.1)
                                (cond (!(y9.2.1 != (0 : Int)))
                                  (Option.bind (scc_Parts_Len (some z23.2.2.1, ())) fun y28 =>
                                  Option.bind (scc_Parts_Len (some z25.2.1, ())) fun y29 =>
                                  cond (decide (y28.1 ≤ y29.1))
                                    (Option.bind (law11_awake ()) fun y30 =>
                                    some y30)
                                    (some (false, ())))
                                  (Option.bind (law11_awake ()) fun y31 =>
                                  some y31))
                                (some (false, ()))))))))))
noncomputable def law11_SccTurns_c : Ctr := ⟨(.cons (.int .i64) (.cons (.lst t_easementref08_Pair) (.cons t_easementref08_Pair .nil))), (.cons .bool .nil), law11_SccTurns, none⟩
theorem law11_SccTurns_ok : CtrOK Try.prog 4 law11_SccTurns_c := fun_E k53 Try.func4 k53s (by kernel_rfl) (fun x => by kernel_rfl)
/-! ### (*easement/tick.Counter).Add: function 39, at objects -/
noncomputable def tick_Counter_Add_p1 (x : (V_tick_Counter × Int × Int × Unit)) : Option ((V_tick_Counter × Unit) ⊕ ((V_tick_Counter × Unit) ⊕ Empty)) :=
  cond (cond (cond (decide (x.2.1 < (0 : Int))) true (decide (x.2.1 ≥ (7 : Int)))) true (decide (x.2.2.1 < (0 : Int))))
    (some (.inl (x.1, ())))
    (ck (inB x.2.1 7) <|
    cond (decide (x.2.2.1 > (IntKind.i64.wrap ((9223372036854775807 : Int) - (([x.1.1, x.1.2.1, x.1.2.2.1, x.1.2.2.2.1, x.1.2.2.2.2.1, x.1.2.2.2.2.2.1, x.1.2.2.2.2.2.2.1] : List Int).getD x.2.1.toNat (Ty.dflt (.int .i64)))))))
      (ck (inB x.2.1 7) <|
      some (.inl ((cond (Nat.beq x.2.1.toNat 0) (9223372036854775807 : Int) x.1.1, cond (Nat.beq x.2.1.toNat 1) (9223372036854775807 : Int) x.1.2.1, cond (Nat.beq x.2.1.toNat 2) (9223372036854775807 : Int) x.1.2.2.1, cond (Nat.beq x.2.1.toNat 3) (9223372036854775807 : Int) x.1.2.2.2.1, cond (Nat.beq x.2.1.toNat 4) (9223372036854775807 : Int) x.1.2.2.2.2.1, cond (Nat.beq x.2.1.toNat 5) (9223372036854775807 : Int) x.1.2.2.2.2.2.1, cond (Nat.beq x.2.1.toNat 6) (9223372036854775807 : Int) x.1.2.2.2.2.2.2.1, ()), ())))
      (ck (inB x.2.1 7) <|
      ck (inB x.2.1 7) <|
      let v1 := IntKind.i64.wrap ((([x.1.1, x.1.2.1, x.1.2.2.1, x.1.2.2.2.1, x.1.2.2.2.2.1, x.1.2.2.2.2.2.1, x.1.2.2.2.2.2.2.1] : List Int).getD x.2.1.toNat (Ty.dflt (.int .i64))) + x.2.2.1)
      some (.inr (.inl ((cond (Nat.beq x.2.1.toNat 0) v1 x.1.1, cond (Nat.beq x.2.1.toNat 1) v1 x.1.2.1, cond (Nat.beq x.2.1.toNat 2) v1 x.1.2.2.1, cond (Nat.beq x.2.1.toNat 3) v1 x.1.2.2.2.1, cond (Nat.beq x.2.1.toNat 4) v1 x.1.2.2.2.2.1, cond (Nat.beq x.2.1.toNat 5) v1 x.1.2.2.2.2.2.1, cond (Nat.beq x.2.1.toNat 6) v1 x.1.2.2.2.2.2.2.1, ()), ())))))
noncomputable def k54L : LCtr := ⟨[0, 1, 2], (.cons (.ptr 0 q64) (.cons (.val (.int .i64)) (.cons (.val (.int .i64)) .nil))), [], [], [⟨.ret, [0], (.cons (.ptr 0 q64) .nil), [some 0]⟩, ⟨.normal, [0], (.cons (.ptr 0 q64) .nil), [some 0]⟩], fun _ => [], tick_Counter_Add_p1⟩
noncomputable def tick_Counter_Add_p1_c : PI := mkPI Try.f39 k54L
theorem tick_Counter_Add_p1_ok : PIOK Try.prog 39 tick_Counter_Add_p1_c := proc_E (ls := []) k0 Try.func39 trivial (by kernel_rfl) (fun x => by kernel_rfl)
/-! ### easement/scc.ordered: function 40, at objects -/
noncomputable def k55 : FE Try.prog := ⟨[(37, graph_Graph_Nodes_c), (45, graph_Graph_Arcs_c), (46, graph_Graph_Arc_c), (16, graph_Graph_Turn_c), (57, graph_Graph_Next_c)], [(54, [heap_Push_p0_c]), (55, [scc_least_Len_p0_c]), (56, [heap_Pop_p0_c]), (39, [tick_Counter_Add_p1_c])], [], [], ⟨graph_Graph_Nodes_ok, graph_Graph_Arcs_ok, graph_Graph_Arc_ok, graph_Graph_Turn_ok, graph_Graph_Next_ok, trivial⟩, ⟨⟨heap_Push_p0_ok, trivial⟩, ⟨scc_least_Len_p0_ok, trivial⟩, ⟨heap_Pop_p0_ok, trivial⟩, ⟨tick_Counter_Add_p1_ok, trivial⟩, trivial⟩, trivial⟩
noncomputable def scc_ordered_p1_l14_step (g : ((List Int) × Int × (List Int) × Int × Int × Unit) → Option (V_point_Points ⊕ Empty)) (x : ((List Int) × Int × (List Int) × Int × Int × Unit)) : Option (V_point_Points ⊕ Empty) :=
  cond (decide (x.2.2.2.2.1 < x.2.2.2.1))
    (ck (inB x.2.2.2.2.1 (x.2.2.1.length)) <|
    let v1 := rdL (.int .i64) x.2.2.1 x.2.2.2.2.1
    ck (inB v1 (x.1.length)) <|
    g (x.1.set v1.toNat x.2.1, x.2.1, x.2.2.1, x.2.2.2.1, IntKind.i64.wrap (x.2.2.2.2.1 + (1 : Int)), ()))
    (some (.inl (x.1, ())))
noncomputable def k55l1 : LCtr := ⟨[8, 9, 42, 43, 44], q27, [some 0], [8, 35, 36, 37], [⟨(.exit 2), [8], (.cons (.own (.int .i64)) .nil), [some 0]⟩], fun _ => [], lim scc_ordered_p1_l14_step⟩
noncomputable def scc_ordered_p1_l8_step (g : ((List Int) × (List (List Int)) × Int × Int × Unit) → Option (V_point_Points ⊕ Empty)) (x : ((List Int) × (List (List Int)) × Int × Int × Unit)) : Option (V_point_Points ⊕ Empty) :=
  cond (decide (x.2.2.2.1 < x.2.2.1))
    (ck (inB x.2.2.2.1 (x.2.1.length)) <|
    let v1 := rdL (.lst (.int .i64)) x.2.1 x.2.2.2.1
    Option.bind (lim scc_ordered_p1_l14_step (x.1, x.2.2.2.1, v1, (v1.length : Int), (0 : Int), ())) fun y3 => out1 y3
      (fun z4 =>
        g (z4.1, x.2.1, x.2.2.1, IntKind.i64.wrap (x.2.2.2.1 + (1 : Int)), ())))
    (some (.inl (x.1, ())))
noncomputable def k55l2 : LCtr := ⟨[8, 35, 36, 37], q28, [some 0], [0, 1, 2, 7, 8], [⟨(.exit 0), [8], (.cons (.own (.int .i64)) .nil), [some 0]⟩], fun _ => [], lim scc_ordered_p1_l8_step⟩
noncomputable def scc_ordered_p1_j157_v (x : T7) : Option T8 :=
  cond (x.2.2.2.1)
    (ck (inB x.1.1 (x.2.1.length)) <|
    let v1 := x.2.1.getD x.1.1.toNat (Ty.dflt (.int .i64))
    ck (inB v1 (x.2.2.1.length)) <|
    ck (inB v1 (x.2.2.1.length)) <|
    some (.inl (x.1, x.2.1, x.2.2.1.set v1.toNat (IntKind.i64.wrap ((x.2.2.1.getD v1.toNat (Ty.dflt (.int .i64))) + (1 : Int))), ())))
    (some (.inl (x.1, x.2.1, x.2.2.1, ())))
noncomputable def k55l3 : LCtr := ⟨[15, 8, 13, 78], q29, [], [0, 8, 13, 58, 59], [⟨.normal, [15, 8, 13], q30, [some 0, some 1, some 2]⟩], fun _ => [], scc_ordered_p1_j157_v⟩
noncomputable def scc_ordered_p1_l28_step (g : T9 → Option (((List Int) × (List Int) × Unit) ⊕ Empty)) (x : T9) : Option (((List Int) × (List Int) × Unit) ⊕ Empty) :=
  cond (decide (x.2.2.2.2.1 < x.2.2.2.1))
    (Option.bind (graph_Graph_Arc (x.1, x.2.2.2.2)) fun y8 =>
    ck (inB y8.1.1 (x.2.1.length)) <|
    ck (inB y8.1.2.1 (x.2.1.length)) <|
    Option.bind (scc_ordered_p1_j157_v (y8.1, x.2.1, x.2.2.1, (x.2.1.getD y8.1.1.toNat (Ty.dflt (.int .i64))) != (x.2.1.getD y8.1.2.1.toNat (Ty.dflt (.int .i64))), ())) fun y9 => out1 y9
      (fun z10 =>
        g (x.1, z10.2.1, z10.2.2.1, x.2.2.2.1, IntKind.i64.wrap (x.2.2.2.2.1 + (1 : Int)), ())))
    (some (.inl (x.2.1, x.2.2.1, ())))
noncomputable def k55l4 : LCtr := ⟨[0, 8, 13, 58, 59], q31, [some 0, some 1], [0, 1, 2, 7, 8, 13], [⟨(.exit 4), [8, 13], (.cons (.own (.int .i64)) (.cons (.own (.int .i64)) .nil)), [some 0, some 1]⟩], fun _ => [], lim scc_ordered_p1_l28_step⟩
noncomputable def scc_ordered_p1_j203_v (x : (V_scc_least × Int × Bool × Unit)) : Option ((V_scc_least × Unit) ⊕ Empty) :=
  cond (x.2.2.1)
    (Option.bind (heap_Push_p0 (x.1, x.2.1, ())) fun y13 => out1 y13
      (fun z14 =>
        some (.inl z14)))
    (some (.inl (x.1, ())))
noncomputable def k55l5 : LCtr := ⟨[17, 18, 101], q32, [], [17, 93, 94, 95], [⟨.normal, [17], (.cons (.ptr 0 q21) .nil), [some 0, none]⟩], fun _ => [], scc_ordered_p1_j203_v⟩
noncomputable def scc_ordered_p1_l44_step (g : (V_scc_least × (List Int) × Int × Int × Unit) → Option ((V_scc_least × (List Int) × Unit) ⊕ Empty)) (x : (V_scc_least × (List Int) × Int × Int × Unit)) : Option ((V_scc_least × (List Int) × Unit) ⊕ Empty) :=
  cond (decide (x.2.2.2.1 < x.2.2.1))
    (ck (inB x.2.2.2.1 (x.2.1.length)) <|
    Option.bind (scc_ordered_p1_j203_v (x.1, x.2.2.2.1, (x.2.1.getD x.2.2.2.1.toNat (Ty.dflt (.int .i64))) == (0 : Int), ())) fun y15 => out1 y15
      (fun z16 =>
        g (z16.1, x.2.1, x.2.2.1, IntKind.i64.wrap (x.2.2.2.1 + (1 : Int)), ())))
    (some (.inl (x.1, x.2.1, ())))
noncomputable def k55l6 : LCtr := ⟨[17, 93, 94, 95], q33, [some 0, none, some 2], [0, 1, 2, 7, 8, 13, 17], [⟨(.exit 6), [17, 93], (.cons (.ptr 0 q21) (.cons (.own (.int .i64)) .nil)), [some 0, none, some 2]⟩], fun _ => [], lim scc_ordered_p1_l44_step⟩
noncomputable def scc_ordered_p1_j373_v (x : (V_scc_least × (List Int) × Int × Bool × Unit)) : Option ((V_scc_least × (List Int) × Unit) ⊕ Empty) :=
  cond (x.2.2.2.1)
    (ck (inB x.2.2.1 (x.2.1.length)) <|
    Option.bind (heap_Push_p0 (x.1, x.2.1.getD x.2.2.1.toNat (Ty.dflt (.int .i64)), ())) fun y27 => out1 y27
      (fun z28 =>
        some (.inl (z28.1, x.2.1, ()))))
    (some (.inl (x.1, x.2.1, ())))
noncomputable def k55l7 : LCtr := ⟨[17, 8, 26, 186], q34, [], [2, 8, 13, 17, 21, 156, 157, 158], [⟨.normal, [17, 8], (.cons (.ptr 0 q21) (.cons (.own (.int .i64)) .nil)), [some 0, none, some 2]⟩], fun _ => [], scc_ordered_p1_j373_v⟩
noncomputable def scc_ordered_p1_l72_step (g : T26 → Option T27) (x : T26) : Option T27 :=
  cond (decide (x.2.2.2.2.2.2.2.1 < x.2.2.2.2.2.2.1))
    (ck (inB x.2.2.2.2.2.2.2.1 (x.2.2.2.2.2.1.length)) <|
    Option.bind (tick_Counter_Add_p1 (x.1, (4 : Int), (1 : Int), ())) fun y25 => out2 y25
      (fun z26 =>
        let v1 := rdL (.int .i64) x.2.2.2.2.2.1 x.2.2.2.2.2.2.2.1
        ck (inB v1 (x.2.2.1.length)) <|
        cond ((x.2.2.1.getD v1.toNat (Ty.dflt (.int .i64))) == x.2.2.2.2.1)
          (g (z26.1, x.2.1, x.2.2.1, x.2.2.2.1, x.2.2.2.2.1, x.2.2.2.2.2.1, x.2.2.2.2.2.2.1, IntKind.i64.wrap (x.2.2.2.2.2.2.2.1 + (1 : Int)), ()))
          (ck (inB v1 (x.2.2.1.length)) <|
          let v2 := x.2.2.1.getD v1.toNat (Ty.dflt (.int .i64))
          ck (inB v2 (x.2.2.2.1.length)) <|
          ck (inB v2 (x.2.2.2.1.length)) <|
          ck (inB v1 (x.2.2.1.length)) <|
          let v3 := x.2.2.1.getD v1.toNat (Ty.dflt (.int .i64))
          let v4 := x.2.2.2.1.set v2.toNat (IntKind.i64.wrap ((x.2.2.2.1.getD v2.toNat (Ty.dflt (.int .i64))) - (1 : Int)))
          ck (inB v3 (v4.length)) <|
          Option.bind (scc_ordered_p1_j373_v (x.2.1, x.2.2.1, v1, (v4.getD v3.toNat (Ty.dflt (.int .i64))) == (0 : Int), ())) fun y29 => out1 y29
            (fun z30 =>
              g (z26.1, z30.1, z30.2.1, v4, x.2.2.2.2.1, x.2.2.2.2.2.1, x.2.2.2.2.2.2.1, IntKind.i64.wrap (x.2.2.2.2.2.2.2.1 + (1 : Int)), ()))))
      (fun z31 =>
        let v5 := rdL (.int .i64) x.2.2.2.2.2.1 x.2.2.2.2.2.2.2.1
        ck (inB v5 (x.2.2.1.length)) <|
        cond ((x.2.2.1.getD v5.toNat (Ty.dflt (.int .i64))) == x.2.2.2.2.1)
          (g (z31.1, x.2.1, x.2.2.1, x.2.2.2.1, x.2.2.2.2.1, x.2.2.2.2.2.1, x.2.2.2.2.2.2.1, IntKind.i64.wrap (x.2.2.2.2.2.2.2.1 + (1 : Int)), ()))
          (ck (inB v5 (x.2.2.1.length)) <|
          let v6 := x.2.2.1.getD v5.toNat (Ty.dflt (.int .i64))
          ck (inB v6 (x.2.2.2.1.length)) <|
          ck (inB v6 (x.2.2.2.1.length)) <|
          ck (inB v5 (x.2.2.1.length)) <|
          let v7 := x.2.2.1.getD v5.toNat (Ty.dflt (.int .i64))
          let v8 := x.2.2.2.1.set v6.toNat (IntKind.i64.wrap ((x.2.2.2.1.getD v6.toNat (Ty.dflt (.int .i64))) - (1 : Int)))
          ck (inB v7 (v8.length)) <|
          Option.bind (scc_ordered_p1_j373_v (x.2.1, x.2.2.1, v5, (v8.getD v7.toNat (Ty.dflt (.int .i64))) == (0 : Int), ())) fun y32 => out1 y32
            (fun z33 =>
              g (z31.1, z33.1, z33.2.1, v8, x.2.2.2.2.1, x.2.2.2.2.2.1, x.2.2.2.2.2.2.1, IntKind.i64.wrap (x.2.2.2.2.2.2.2.1 + (1 : Int)), ())))))
    (some (.inl (x.1, x.2.1, x.2.2.1, x.2.2.2.1, ())))
noncomputable def k55l8 : LCtr := ⟨[2, 17, 8, 13, 21, 156, 157, 158], (.cons (.ptr 0 q64) (.cons (.ptr 0 q21) (.cons (.own (.int .i64)) (.cons (.own (.int .i64)) (.cons (.val (.int .i64)) (.cons (.val (.lst (.int .i64))) (.cons (.val (.int .i64)) (.cons (.val (.int .i64)) .nil)))))))), [some 0, some 1, none, some 3, some 4], [2, 7, 8, 13, 17, 20, 21, 136, 137, 138], [⟨(.exit 12), [2, 17, 8, 13], (.cons (.ptr 0 q64) (.cons (.ptr 0 q21) (.cons (.own (.int .i64)) (.cons (.own (.int .i64)) .nil)))), [some 0, some 1, none, some 3, some 4]⟩], fun _ => [], lim scc_ordered_p1_l72_step⟩
noncomputable def scc_ordered_p1_l64_step (g : T28 → Option T29) (x : T28) : Option T29 :=
  cond (decide (x.2.2.2.2.2.2.2.2.2.1 < x.2.2.2.2.2.2.2.2.1))
    (ck (inB x.2.2.2.2.2.2.2.2.2.1 (x.2.2.2.2.2.2.2.1.length)) <|
    let v1 := rdL (.int .i64) x.2.2.2.2.2.2.2.1 x.2.2.2.2.2.2.2.2.2.1
    ck (inB v1 (x.2.1.1.length)) <|
    Option.bind (graph_Graph_Next (x.2.2.2.2.2.1, v1, ())) fun y24 =>
    Option.bind (lim scc_ordered_p1_l72_step (x.1, x.2.2.1, x.2.2.2.1, x.2.2.2.2.1, x.2.2.2.2.2.2.1, y24.1, (y24.1.length : Int), (0 : Int), ())) fun y34 => out1 y34
      (fun z35 =>
        g (z35.1, (x.2.1.1.set v1.toNat (IntKind.i64.wrap ((x.2.1.2.1.length : Int) - (1 : Int))), x.2.1.2), z35.2.1, z35.2.2.1, z35.2.2.2.1, x.2.2.2.2.2.1, x.2.2.2.2.2.2.1, x.2.2.2.2.2.2.2.1, x.2.2.2.2.2.2.2.2.1, IntKind.i64.wrap (x.2.2.2.2.2.2.2.2.2.1 + (1 : Int)), ())))
    (some (.inl (x.1, x.2.1, x.2.2.1, x.2.2.2.1, x.2.2.2.2.1, ())))
noncomputable def k55l9 : LCtr := ⟨[2, 7, 17, 8, 13, 20, 21, 136, 137, 138], (.cons (.ptr 0 q64) (.cons (.ptr 0 (.cons (.own (.int .i64)) (.cons (.own (.lst (.int .i64))) .nil))) (.cons (.ptr 0 q21) (.cons (.own (.int .i64)) (.cons (.own (.int .i64)) (.cons (.val (.ptr (.cons (.int .i64) (.cons (.lst t_easementref08_Pair) (.cons (.lst (.int .i32)) (.cons (.lst (.int .i32)) (.cons (.lst (.int .i32)) (.cons (.lst (.int .i32)) .nil)))))))) (.cons (.val (.int .i64)) (.cons (.val (.lst (.int .i64))) (.cons (.val (.int .i64)) (.cons (.val (.int .i64)) .nil)))))))))), [some 0, some 1, some 2, some 3, some 4, none, some 6, some 7], [1, 2, 7, 8, 13, 17, 20], [⟨(.exit 10), [2, 7, 17, 8, 13], q69, [some 0, some 1, some 2, some 3, some 4, none, some 6, some 7]⟩], fun _ => [], lim scc_ordered_p1_l64_step⟩
noncomputable def scc_ordered_p1_l56_step (g : T30 → Option T29) (x : T30) : Option T29 :=
  Option.bind (scc_least_Len_p0 (x.2.2.1, ())) fun y20 => out1 y20
    (fun z21 =>
      cond (decide (z21.1 > (0 : Int)))
        (Option.bind (heap_Pop_p0 z21.2) fun y22 => out1 y22
          (fun z23 =>
            ck (inB z23.1 (x.2.2.2.1.length)) <|
            let v1 := x.2.1.2.1 ++ [rdL (.lst (.int .i64)) x.2.2.2.1 z23.1]
            ck (roomB v1.length 26) <|
            ck (inB z23.1 (x.2.2.2.1.length)) <|
            let v2 := rdL (.lst (.int .i64)) x.2.2.2.1 z23.1
            Option.bind (lim scc_ordered_p1_l64_step (x.1, (x.2.1.1, v1, ()), z23.2.1, x.2.2.2.2.1, x.2.2.2.2.2.1, x.2.2.2.2.2.2.1, z23.1, v2, (v2.length : Int), (0 : Int), ())) fun y36 => out1 y36
              (fun z37 =>
                g (z37.1, z37.2.1, z37.2.2.1, x.2.2.2.1, z37.2.2.2.1, z37.2.2.2.2.1, x.2.2.2.2.2.2))))
        (some (.inl (x.1, x.2.1, z21.2.1, x.2.2.2.2.1, x.2.2.2.2.2.1, ()))))
noncomputable def k55l10 : LCtr := ⟨[2, 7, 17, 1, 8, 13, 20], (.cons (.ptr 0 q64) (.cons (.ptr 0 (.cons (.own (.int .i64)) (.cons (.own (.lst (.int .i64))) .nil))) (.cons (.ptr 0 q21) (.cons (.val (.lst (.lst (.int .i64)))) (.cons (.own (.int .i64)) (.cons (.own (.int .i64)) (.cons (.val (.ptr (.cons (.int .i64) (.cons (.lst t_easementref08_Pair) (.cons (.lst (.int .i32)) (.cons (.lst (.int .i32)) (.cons (.lst (.int .i32)) (.cons (.lst (.int .i32)) .nil)))))))) .nil))))))), [some 0, some 1, some 2, none, some 4, none, some 6, some 7], [0, 1, 2, 7], [⟨(.exit 8), [2, 7, 17, 8, 13], q69, [some 0, some 1, some 2, none, some 4, none, some 6, some 7]⟩], fun _ => [], lim scc_ordered_p1_l56_step⟩
theorem k55s : LsOK Try.prog Try.f40.ntmps (codeOf Try.f40) [(56, k55l10), (64, k55l9), (72, k55l8), (5505397, k55l7), (44, k55l6), (3277003, k55l5), (28, k55l4), (2359453, k55l3), (8, k55l2), (14, k55l1)] := loop_E 56 k55l10 k55 (loop_E 64 k55l9 k55 (loop_E 72 k55l8 k55 (join_E 5505397 k55l7 k55 (loop_E 44 k55l6 k55 (join_E 3277003 k55l5 k55 (loop_E 28 k55l4 k55 (join_E 2359453 k55l3 k55 (loop_E 8 k55l2 k55 (loop_E 14 k55l1 k55 trivial (by kernel_rfl) rfl (fun g x => by kernel_rfl)) (by kernel_rfl) rfl (fun g x => by kernel_rfl)) (by kernel_rfl) (fun x => by kernel_rfl)) (by kernel_rfl) rfl (fun g x => by kernel_rfl)) (by kernel_rfl) (fun x => by kernel_rfl)) (by kernel_rfl) rfl (fun g x => by kernel_rfl)) (by kernel_rfl) (fun x => by kernel_rfl)) (by kernel_rfl) rfl (fun g x => by kernel_rfl)) (by kernel_rfl) rfl (fun g x => by kernel_rfl)) (by kernel_rfl) rfl (fun g x => by kernel_rfl)
noncomputable def scc_ordered_p1 (x : ((Option V_graph_Graph) × (List (List Int)) × V_tick_Counter × Unit)) : Option ((V_scc_Parts × V_tick_Counter × Unit) ⊕ Empty) :=
  Option.bind (graph_Graph_Nodes (x.1, ())) fun y1 =>
  ck (decide (0 ≤ y1.1) && decide (y1.1 ≤ y1.1) && decide (y1.1 * ((10 : Nat) : Int) ≤ 35184372088832)) <|
  Option.bind (graph_Graph_Nodes (x.1, ())) fun y2 =>
  ck (decide (0 ≤ y2.1) && decide (y2.1 ≤ y2.1) && decide (y2.1 * ((10 : Nat) : Int) ≤ 35184372088832)) <|
  Option.bind (lim scc_ordered_p1_l8_step (List.replicate y2.1.toNat ((0 : Int) : Int), x.2.1, (x.2.1.length : Int), (0 : Int), ())) fun y5 => out1 y5
    (fun z6 =>
      ck (decide (0 ≤ (x.2.1.length : Int)) && decide ((x.2.1.length : Int) ≤ (x.2.1.length : Int)) && decide ((x.2.1.length : Int) * ((10 : Nat) : Int) ≤ 35184372088832)) <|
      Option.bind (graph_Graph_Arcs (x.1, ())) fun y7 =>
      Option.bind (lim scc_ordered_p1_l28_step (x.1, z6.1, List.replicate (x.2.1.length : Int).toNat ((0 : Int) : Int), y7.1, (0 : Int), ())) fun y11 => out1 y11
        (fun z12 =>
          Option.bind (lim scc_ordered_p1_l44_step ((x.2.1, ([] : List Int), ()), z12.2.1, (z12.2.1.length : Int), (0 : Int), ())) fun y17 => out1 y17
            (fun z18 =>
              Option.bind (graph_Graph_Turn (x.1, ())) fun y19 =>
              Option.bind (lim scc_ordered_p1_l56_step (x.2.2.1, (List.replicate y1.1.toNat ((0 : Int) : Int), ([] : List (List Int)), ()), z18.1, x.2.1, z12.1, z18.2.1, y19)) fun y38 => out1 y38
                (fun z39 =>
                  some (.inl (z39.2.1, z39.1, ()))))))
noncomputable def k55L : LCtr := ⟨[0, 1, 2], (.cons (.val (.ptr (.cons (.int .i64) (.cons (.lst t_easementref08_Pair) (.cons (.lst (.int .i32)) (.cons (.lst (.int .i32)) (.cons (.lst (.int .i32)) (.cons (.lst (.int .i32)) .nil)))))))) (.cons (.val (.lst (.lst (.int .i64)))) (.cons (.ptr 0 q64) .nil))), [], [], [⟨.ret, [6, 2], q72, [none, none, none, some 0]⟩], fun _ => [], scc_ordered_p1⟩
noncomputable def scc_ordered_p1_c : PI := mkPI Try.f40 k55L
theorem scc_ordered_p1_ok : PIOK Try.prog 40 scc_ordered_p1_c := proc_E k55 Try.func40 k55s (by kernel_rfl) (fun x => by kernel_rfl)
/-! ### easement/scc.Of: function 10, at objects -/
noncomputable def k56 : FE Try.prog := ⟨[(37, graph_Graph_Nodes_c)], [(38, [scc_finder_goes_p0_c]), (39, [tick_Counter_Add_p1_c]), (40, [scc_ordered_p1_c])], [(47, [1])], [], ⟨graph_Graph_Nodes_ok, trivial⟩, ⟨⟨scc_finder_goes_p0_ok, trivial⟩, ⟨tick_Counter_Add_p1_ok, trivial⟩, ⟨scc_ordered_p1_ok, trivial⟩, trivial⟩, trivial⟩
noncomputable def scc_Of_p1_j61_v (x : (V_scc_finder × Int × Bool × Unit)) : Option ((V_scc_finder × Unit) ⊕ Empty) :=
  cond (x.2.2.1)
    (Option.bind (scc_finder_goes_p0 (x.1, x.2.1, ())) fun y2 => out1 y2
      (fun z3 =>
        some (.inl z3)))
    (some (.inl (x.1, ())))
noncomputable def k56l1 : LCtr := ⟨[6, 7, 30], q42, [], [6, 19, 20], [⟨.normal, [6], (.cons (.ptr 0 q10) .nil), [some 0, some 1, some 2, none, some 4, none, none]⟩], fun _ => [], scc_Of_p1_j61_v⟩
noncomputable def scc_Of_p1_l8_step (g : (V_scc_finder × Int × Int × Unit) → Option ((V_scc_finder × Unit) ⊕ Empty)) (x : (V_scc_finder × Int × Int × Unit)) : Option ((V_scc_finder × Unit) ⊕ Empty) :=
  cond (decide (x.2.2.1 < x.2.1))
    (ck (inB x.2.2.1 (x.1.2.1.length)) <|
    Option.bind (scc_Of_p1_j61_v (x.1, x.2.2.1, (x.1.2.1.getD x.2.2.1.toNat (Ty.dflt (.int .i64))) == (0 : Int), ())) fun y4 => out1 y4
      (fun z5 =>
        g (z5.1, x.2.1, IntKind.i64.wrap (x.2.2.1 + (1 : Int)), ())))
    (some (.inl (x.1, ())))
noncomputable def k56l2 : LCtr := ⟨[6, 19, 20], q43, [some 0, some 1, some 2, none, some 4, none, none], [0, 1, 6], [⟨(.exit 0), [6], (.cons (.ptr 0 q10) .nil), [some 0, some 1, some 2, none, some 4, none, none]⟩], fun _ => [], lim scc_Of_p1_l8_step⟩
theorem k56s : LsOK Try.prog Try.f10.ntmps (codeOf Try.f10) [(8, k56l2), (917565, k56l1)] := loop_E 8 k56l2 k56 (join_E 917565 k56l1 k56 trivial (by kernel_rfl) (fun x => by kernel_rfl)) (by kernel_rfl) rfl (fun g x => by kernel_rfl)
noncomputable def scc_Of_p1 (x : ((Option V_graph_Graph) × V_tick_Counter × Unit)) : Option ((V_scc_Parts × V_tick_Counter × Unit) ⊕ Empty) :=
  Option.bind (graph_Graph_Nodes (x.1, ())) fun y1 =>
  ck (decide (0 ≤ y1.1) && decide (y1.1 ≤ y1.1) && decide (y1.1 * ((10 : Nat) : Int) ≤ 35184372088832)) <|
  ck (decide (0 ≤ y1.1) && decide (y1.1 ≤ y1.1) && decide (y1.1 * ((10 : Nat) : Int) ≤ 35184372088832)) <|
  ck (decide (0 ≤ y1.1) && decide (y1.1 ≤ y1.1) && decide (y1.1 * ((10 : Nat) : Int) ≤ 35184372088832)) <|
  Option.bind (lim scc_Of_p1_l8_step ((x.1, List.replicate y1.1.toNat ((0 : Int) : Int), List.replicate y1.1.toNat ((0 : Int) : Int), ([] : List Int), List.replicate y1.1.toNat ((0 : Int) : Int), ([] : List V_scc_call), ([] : List (List Int)), (0 : Int), ()), y1.1, (0 : Int), ())) fun y6 => out1 y6
    (fun z7 =>
      Option.bind (tick_Counter_Add_p1 (x.2.1, (4 : Int), z7.1.2.2.2.2.2.2.2)) fun y8 => out2 y8
        (fun z9 =>
          Option.bind (scc_ordered_p1 (x.1, z7.1.2.2.2.2.2.2.1, z9)) fun y10 => out1 y10
            (fun z11 =>
              some (.inl z11)))
        (fun z12 =>
          Option.bind (scc_ordered_p1 (x.1, z7.1.2.2.2.2.2.2.1, z12)) fun y13 => out1 y13
            (fun z14 =>
              some (.inl z14))))
noncomputable def k56L : LCtr := ⟨[0, 1], (.cons (.val (.ptr (.cons (.int .i64) (.cons (.lst t_easementref08_Pair) (.cons (.lst (.int .i32)) (.cons (.lst (.int .i32)) (.cons (.lst (.int .i32)) (.cons (.lst (.int .i32)) .nil)))))))) (.cons (.ptr 0 q64) .nil)), [], [], [⟨.ret, [4, 1], q72, [none, none, none, some 0]⟩], fun _ => [], scc_Of_p1⟩
noncomputable def scc_Of_p1_c : PI := mkPI Try.f10 k56L
theorem scc_Of_p1_ok : PIOK Try.prog 10 scc_Of_p1_c := proc_E k56 Try.func10 k56s (by kernel_rfl) (fun x => by kernel_rfl)
/-! ### easement/easementref11.ready: function 43 -/
noncomputable def ref11_ready_l4_step (g : T32 → Option ((Bool × Unit) ⊕ (Unit ⊕ Empty))) (x : T32) : Option ((Bool × Unit) ⊕ (Unit ⊕ Empty)) :=
  cond (decide (x.2.2.2.2.1 < (x.2.1.length : Int)))
    (ck (inB x.2.2.2.2.1 (x.2.1.length)) <|
    ck (inB x.2.2.2.2.1 (x.2.1.length)) <|
    ck (inB x.2.2.2.1 (x.1.length)) <|
    let v1 := (rdL t_easementref08_Pair x.2.1 x.2.2.2.2.1).1
    let v2 := rdL (.lst (.int .i64)) x.1 x.2.2.2.1
    ck (inB v1 (v2.length)) <|
    let v3 := (rdL (.int .i64) v2 v1) == (1 : Int)
    ck ((inB x.2.2.2.1 (x.1.length)) || !v3) <|
    let v4 := (rdL t_easementref08_Pair x.2.1 x.2.2.2.2.1).2.1
    let v5 := rdL (.lst (.int .i64)) x.1 x.2.2.2.1
    ck ((inB v4 (v5.length)) || !v3) <|
    let v6 := cond v3 ((rdL (.int .i64) v5 v4) == (0 : Int)) false
    ck ((inB v4 (x.2.2.1.length)) || !v6) <|
    cond (cond v6 (decide ((rdL (.int .i64) x.2.2.1 v4) < (0 : Int))) false)
      (some (.inl (false, ())))
      (g (x.1, x.2.1, x.2.2.1, x.2.2.2.1, IntKind.i64.wrap (x.2.2.2.2.1 + (1 : Int)), ())))
    (some (.inr (.inl ())))
noncomputable def k57l1 : LCtr := ⟨[0, 1, 2, 3, 9], (.cons (.val (.lst (.lst (.int .i64)))) (.cons (.val (.lst t_easementref08_Pair)) (.cons (.val (.lst (.int .i64))) (.cons (.val (.int .i64)) (.cons (.val (.int .i64)) .nil))))), [], [], [⟨.ret, [8], (.cons (.val .bool) .nil), []⟩, ⟨(.exit 0), [], .nil, []⟩], fun _ => [], lim ref11_ready_l4_step⟩
theorem k57s : LsOK Try.prog Try.f43.ntmps (codeOf Try.f43) [(4, k57l1)] := loop_E 4 k57l1 k0 trivial (by kernel_rfl) rfl (fun g x => by kernel_rfl)
noncomputable def ref11_ready (x : ((List (List Int)) × (List V_easementref08_Pair) × (List Int) × Int × Unit)) : Option (Bool × Unit) :=
  Option.bind (lim ref11_ready_l4_step (x.1, x.2.1, x.2.2.1, x.2.2.2.1, (0 : Int), ())) fun y1 => out2 y1
    (fun z2 =>
      some z2)
    (fun z3 =>
      some (true, ()))
noncomputable def ref11_ready_c : Ctr := ⟨(.cons (.lst (.lst (.int .i64))) (.cons (.lst t_easementref08_Pair) (.cons (.lst (.int .i64)) (.cons (.int .i64) .nil)))), (.cons .bool .nil), ref11_ready, none⟩
theorem ref11_ready_ok : CtrOK Try.prog 43 ref11_ready_c := fun_E k0 Try.func43 k57s (by kernel_rfl) (fun x => by kernel_rfl)
/-! ### easement/easementref11.Of: function 17 -/
noncomputable def k58 : FE Try.prog := ⟨[(42, ref10_Reach_c), (43, ref11_ready_c)], [], [], [], ⟨ref10_Reach_ok, ref11_ready_ok, trivial⟩, trivial, trivial⟩
noncomputable def ref11_Of_l10_step (g : T34 → Option (V_scc_least ⊕ Empty)) (x : T34) : Option (V_scc_least ⊕ Empty) :=
  cond (decide (x.2.2.2.2.1 < x.1))
    (Option.bind (ref10_Reach (x.1, x.2.1, x.2.2.2.2)) fun y1 =>
    ck (roomB (x.2.2.1 ++ [y1.1]).length 26) <|
    let v1 := x.2.2.2.1 ++ [(-1 : Int)]
    ck (roomB v1.length 10) <|
    g (x.1, x.2.1, x.2.2.1 ++ [y1.1], v1, IntKind.i64.wrap (x.2.2.2.2.1 + (1 : Int)), ()))
    (some (.inl (x.2.2.1, x.2.2.2.1, ())))
noncomputable def k58l1 : LCtr := ⟨[0, 1, 6, 7, 8], (.cons (.val (.int .i64)) (.cons (.val (.lst t_easementref08_Pair)) (.cons (.own (.lst (.int .i64))) (.cons (.own (.int .i64)) (.cons (.val (.int .i64)) .nil))))), [none, none], [0, 1, 5], [⟨(.exit 0), [6, 7], (.cons (.own (.lst (.int .i64))) (.cons (.own (.int .i64)) .nil)), [none, none]⟩], fun _ => [], lim ref11_Of_l10_step⟩
noncomputable def ref11_Of_l28_step (g : (Int × (List (List Int)) × Int × (List Int) × Int × Unit) → Option (V_scc_Parts ⊕ Empty)) (x : (Int × (List (List Int)) × Int × (List Int) × Int × Unit)) : Option (V_scc_Parts ⊕ Empty) :=
  cond (decide (x.2.2.2.2.1 < x.1))
    (ck (inB x.2.2.1 (x.2.1.length)) <|
    let v1 := x.2.1.getD x.2.2.1.toNat (Ty.dflt (.lst (.int .i64)))
    ck (inB x.2.2.2.2.1 (v1.length)) <|
    ck (inB x.2.2.2.2.1 (x.2.1.length)) <|
    let v2 := x.2.1.getD x.2.2.2.2.1.toNat (Ty.dflt (.lst (.int .i64)))
    ck (inB x.2.2.1 (v2.length)) <|
    let v3 := x.2.2.2.1 ++ [IntKind.i64.wrap ((rdL (.int .i64) v1 x.2.2.2.2.1) * (rdL (.int .i64) v2 x.2.2.1))]
    ck (roomB v3.length 10) <|
    g (x.1, x.2.1, x.2.2.1, v3, IntKind.i64.wrap (x.2.2.2.2.1 + (1 : Int)), ()))
    (some (.inl (x.2.2.2.1, x.2.1, ())))
noncomputable def k58l2 : LCtr := ⟨[0, 6, 9, 10, 11], (.cons (.val (.int .i64)) (.cons (.own (.lst (.int .i64))) (.cons (.val (.int .i64)) (.cons (.own (.int .i64)) (.cons (.val (.int .i64)) .nil))))), [some 0, none], [0, 5, 6, 9], [⟨(.exit 4), [10, 6], (.cons (.own (.int .i64)) (.cons (.own (.lst (.int .i64))) .nil)), [none, some 0]⟩], fun _ => [], lim ref11_Of_l28_step⟩
noncomputable def ref11_Of_l20_step (g : (Int × (List (List Int)) × (List (List Int)) × Int × Unit) → Option (((List (List Int)) × (List (List Int)) × Unit) ⊕ Empty)) (x : (Int × (List (List Int)) × (List (List Int)) × Int × Unit)) : Option (((List (List Int)) × (List (List Int)) × Unit) ⊕ Empty) :=
  cond (decide (x.2.2.2.1 < x.1))
    (Option.bind (lim ref11_Of_l28_step (x.1, x.2.2.1, x.2.2.2.1, ([] : List Int), (0 : Int), ())) fun y4 => out1 y4
      (fun z5 =>
        ck (roomB (x.2.1 ++ [z5.1]).length 26) <|
        g (x.1, x.2.1 ++ [z5.1], z5.2.1, IntKind.i64.wrap (x.2.2.2.1 + (1 : Int)), ())))
    (some (.inl (x.2.1, x.2.2.1, ())))
noncomputable def k58l3 : LCtr := ⟨[0, 5, 6, 9], (.cons (.val (.int .i64)) (.cons (.own (.lst (.int .i64))) (.cons (.own (.lst (.int .i64))) (.cons (.val (.int .i64)) .nil)))), [none, some 1], [0, 1, 7], [⟨(.exit 2), [5, 6], (.cons (.own (.lst (.int .i64))) (.cons (.own (.lst (.int .i64))) .nil)), [none, some 1]⟩], fun _ => [], lim ref11_Of_l20_step⟩
noncomputable def ref11_Of_j205_v (x : ((List Int) × Int × Int × Bool × Unit)) : Option (V_point_Points ⊕ Empty) :=
  cond (x.2.2.2.1)
    (ck (inB x.2.2.1 (x.1.length)) <|
    some (.inl (x.1.set x.2.2.1.toNat x.2.1, ())))
    (some (.inl (x.1, ())))
noncomputable def k58l4 : LCtr := ⟨[7, 12, 15, 102], (.cons (.own (.int .i64)) (.cons (.val (.int .i64)) (.cons (.val (.int .i64)) (.cons (.val .bool) .nil)))), [], [0, 5, 7, 12, 14, 15], [⟨.normal, [7], (.cons (.own (.int .i64)) .nil), [some 0]⟩], fun _ => [], ref11_Of_j205_v⟩
noncomputable def ref11_Of_l54_step (g : T35 → Option (V_scc_least ⊕ Empty)) (x : T35) : Option (V_scc_least ⊕ Empty) :=
  cond (decide (x.2.2.2.2.2.1 < x.1))
    (ck (inB x.2.2.2.2.1 (x.2.1.length)) <|
    let v1 := x.2.1.getD x.2.2.2.2.1.toNat (Ty.dflt (.lst (.int .i64)))
    ck (inB x.2.2.2.2.2.1 (v1.length)) <|
    Option.bind (ref11_Of_j205_v (x.2.2.1, x.2.2.2.1, x.2.2.2.2.2.1, (rdL (.int .i64) v1 x.2.2.2.2.2.1) == (1 : Int), ())) fun y9 => out1 y9
      (fun z10 =>
        g (x.1, x.2.1, z10.1, x.2.2.2.1, x.2.2.2.2.1, IntKind.i64.wrap (x.2.2.2.2.2.1 + (1 : Int)), ())))
    (some (.inl (x.2.1, x.2.2.1, ())))
noncomputable def k58l5 : LCtr := ⟨[0, 5, 7, 12, 14, 15], (.cons (.val (.int .i64)) (.cons (.own (.lst (.int .i64))) (.cons (.own (.int .i64)) (.cons (.val (.int .i64)) (.cons (.val (.int .i64)) (.cons (.val (.int .i64)) .nil)))))), [some 0, some 1], [0, 1, 5, 7, 12, 14], [⟨(.exit 10), [5, 7], (.cons (.own (.lst (.int .i64))) (.cons (.own (.int .i64)) .nil)), [some 0, some 1]⟩], fun _ => [], lim ref11_Of_l54_step⟩
noncomputable def ref11_Of_l46_step (g : T36 → Option T37) (x : T36) : Option T37 :=
  cond (cond (decide (x.2.2.2.2.2.2.1 < x.1)) (!x.2.2.2.2.2.1) false)
    (ck (inB x.2.2.2.2.2.2.1 (x.2.2.2.1.length)) <|
    cond (!(decide ((x.2.2.2.1.getD x.2.2.2.2.2.2.1.toNat (Ty.dflt (.int .i64))) ≥ (0 : Int))))
      (Option.bind (ref11_ready (x.2.2.1, x.2.1, x.2.2.2.1, x.2.2.2.2.2.2)) fun y8 =>
      cond (!y8.1)
        (g (x.1, x.2.1, x.2.2.1, x.2.2.2.1, x.2.2.2.2.1, x.2.2.2.2.2.1, IntKind.i64.wrap (x.2.2.2.2.2.2.1 + (1 : Int)), ()))
        (Option.bind (lim ref11_Of_l54_step (x.1, x.2.2.1, x.2.2.2.1, x.2.2.2.2.1, x.2.2.2.2.2.2.1, (0 : Int), ())) fun y11 => out1 y11
          (fun z12 =>
            g (x.1, x.2.1, z12.1, z12.2.1, IntKind.i64.wrap (x.2.2.2.2.1 + (1 : Int)), true, IntKind.i64.wrap (x.2.2.2.2.2.2.1 + (1 : Int)), ()))))
      (g (x.1, x.2.1, x.2.2.1, x.2.2.2.1, x.2.2.2.2.1, x.2.2.2.2.2.1, IntKind.i64.wrap (x.2.2.2.2.2.2.1 + (1 : Int)), ())))
    (some (.inl (x.2.2.2.2.1, x.2.2.2.2.2.1, x.2.2.1, x.2.2.2.1, ())))
noncomputable def k58l6 : LCtr := ⟨[0, 1, 5, 7, 12, 13, 14], (.cons (.val (.int .i64)) (.cons (.val (.lst t_easementref08_Pair)) (.cons (.own (.lst (.int .i64))) (.cons (.own (.int .i64)) (.cons (.val (.int .i64)) (.cons (.val .bool) (.cons (.val (.int .i64)) .nil))))))), [some 0, some 1], [0, 1, 5, 7], [⟨(.exit 8), [12, 13, 5, 7], (.cons (.val (.int .i64)) (.cons (.val .bool) (.cons (.own (.lst (.int .i64))) (.cons (.own (.int .i64)) .nil)))), [some 0, some 1]⟩], fun _ => [], lim ref11_Of_l46_step⟩
noncomputable def ref11_Of_l40_step (g : T38 → Option (V_scc_least ⊕ Empty)) (x : T38) : Option (V_scc_least ⊕ Empty) :=
  cond (x.2.2.2.2.2.1)
    (Option.bind (lim ref11_Of_l46_step (x.1, x.2.1, x.2.2.1, x.2.2.2.1, x.2.2.2.2.1, false, (0 : Int), ())) fun y13 => out1 y13
      (fun z14 =>
        g (x.1, x.2.1, z14.2.2.1, z14.2.2.2.1, z14.1, z14.2.1, ())))
    (some (.inl (x.2.2.1, x.2.2.2.1, ())))
noncomputable def k58l7 : LCtr := ⟨[0, 1, 5, 7, 12, 13], (.cons (.val (.int .i64)) (.cons (.val (.lst t_easementref08_Pair)) (.cons (.own (.lst (.int .i64))) (.cons (.own (.int .i64)) (.cons (.val (.int .i64)) (.cons (.val .bool) .nil)))))), [some 0, some 1], [7], [⟨(.exit 6), [5, 7], (.cons (.own (.lst (.int .i64))) (.cons (.own (.int .i64)) .nil)), [some 0, some 1]⟩], fun _ => [], lim ref11_Of_l40_step⟩
theorem k58s : LsOK Try.prog Try.f17.ntmps (codeOf Try.f17) [(40, k58l7), (46, k58l6), (54, k58l5), (3932365, k58l4), (20, k58l3), (28, k58l2), (10, k58l1)] := loop_E 40 k58l7 k58 (loop_E 46 k58l6 k58 (loop_E 54 k58l5 k58 (join_E 3932365 k58l4 k58 (loop_E 20 k58l3 k58 (loop_E 28 k58l2 k58 (loop_E 10 k58l1 k58 trivial (by kernel_rfl) rfl (fun g x => by kernel_rfl)) (by kernel_rfl) rfl (fun g x => by kernel_rfl)) (by kernel_rfl) rfl (fun g x => by kernel_rfl)) (by kernel_rfl) (fun x => by kernel_rfl)) (by kernel_rfl) rfl (fun g x => by kernel_rfl)) (by kernel_rfl) rfl (fun g x => by kernel_rfl)) (by kernel_rfl) rfl (fun g x => by kernel_rfl)
noncomputable def ref11_Of (x : (Int × (List V_easementref08_Pair) × Unit)) : Option ((List Int) × Unit) :=
  Option.bind (lim ref11_Of_l10_step (x.1, x.2.1, ([] : List (List Int)), ([] : List Int), (0 : Int), ())) fun y2 => out1 y2
    (fun z3 =>
      Option.bind (lim ref11_Of_l20_step (x.1, ([] : List (List Int)), z3.1, (0 : Int), ())) fun y6 => out1 y6
        (fun z7 =>
          Option.bind (lim ref11_Of_l40_step (x.1, x.2.1, z7.1, z3.2.1, (0 : Int), true, ())) fun y15 => out1 y15
            (fun z16 =>
              some z16.2)))
noncomputable def ref11_Of_c : Ctr := ⟨(.cons (.int .i64) (.cons (.lst t_easementref08_Pair) .nil)), (.cons (.lst (.int .i64)) .nil), ref11_Of, none⟩
theorem ref11_Of_ok : CtrOK Try.prog 17 ref11_Of_c := fun_E k58 Try.func17 k58s (by kernel_rfl) (fun x => by kernel_rfl)
/-! ### easement/easementref11.Count: function 18 -/
noncomputable def ref11_Count_j35_v (x : ((List Int) × Int × Int × Bool × Unit)) : Option ((Int × Unit) ⊕ Empty) :=
  cond (x.2.2.2.1)
    (ck (inB x.2.2.1 (x.1.length)) <|
    some (.inl (IntKind.i64.wrap ((rdL (.int .i64) x.1 x.2.2.1) + (1 : Int)), ())))
    (some (.inl (x.2.1, ())))
noncomputable def k59l1 : LCtr := ⟨[0, 3, 4, 17], (.cons (.val (.lst (.int .i64))) (.cons (.val (.int .i64)) (.cons (.val (.int .i64)) (.cons (.val .bool) .nil)))), [], [0, 4], [⟨.normal, [3], (.cons (.val (.int .i64)) .nil), []⟩], fun _ => [], ref11_Count_j35_v⟩
noncomputable def ref11_Count_l6_step (g : ((List Int) × Int × Int × Unit) → Option ((Int × Unit) ⊕ Empty)) (x : ((List Int) × Int × Int × Unit)) : Option ((Int × Unit) ⊕ Empty) :=
  cond (decide (x.2.2.1 < (x.1.length : Int)))
    (ck (inB x.2.2.1 (x.1.length)) <|
    Option.bind (ref11_Count_j35_v (x.1, x.2.1, x.2.2.1, decide ((IntKind.i64.wrap ((rdL (.int .i64) x.1 x.2.2.1) + (1 : Int))) > x.2.1), ())) fun y1 => out1 y1
      (fun z2 =>
        g (x.1, z2.1, IntKind.i64.wrap (x.2.2.1 + (1 : Int)), ())))
    (some (.inl (x.2.1, ())))
noncomputable def k59l2 : LCtr := ⟨[0, 3, 4], (.cons (.val (.lst (.int .i64))) (.cons (.val (.int .i64)) (.cons (.val (.int .i64)) .nil))), [], [], [⟨(.exit 0), [3], (.cons (.val (.int .i64)) .nil), []⟩], fun _ => [], lim ref11_Count_l6_step⟩
theorem k59s : LsOK Try.prog Try.f18.ntmps (codeOf Try.f18) [(6, k59l2), (786467, k59l1)] := loop_E 6 k59l2 k0 (join_E 786467 k59l1 k0 trivial (by kernel_rfl) (fun x => by kernel_rfl)) (by kernel_rfl) rfl (fun g x => by kernel_rfl)
noncomputable def ref11_Count (x : ((List Int) × Unit)) : Option (Int × Unit) :=
  Option.bind (lim ref11_Count_l6_step (x.1, (0 : Int), (0 : Int), ())) fun y3 => out1 y3
    (fun z4 =>
      some z4)
noncomputable def ref11_Count_c : Ctr := ⟨(.cons (.lst (.int .i64)) .nil), (.cons (.int .i64) .nil), ref11_Count, none⟩
theorem ref11_Count_ok : CtrOK Try.prog 18 ref11_Count_c := fun_E k0 Try.func18 k59s (by kernel_rfl) (fun x => by kernel_rfl)
/-! ### (*easement/tick.Counter).Of: function 19 -/
noncomputable def tick_Counter_Of (x : ((Option V_tick_Counter) × Int × Unit)) : Option (Int × Unit) :=
  cond (cond (cond (x.1.isNone) true (decide (x.2.1 < (0 : Int)))) true (decide (x.2.1 ≥ (7 : Int))))
    (some ((0 : Int), ()))
    (ck (x.1.isSome) <|
    ck (inB x.2.1 7) <|
    let v1 := x.1.getD (Ty.dflt (.cons (.int .i64) (.cons (.int .i64) (.cons (.int .i64) (.cons (.int .i64) (.cons (.int .i64) (.cons (.int .i64) (.cons (.int .i64) .nil))))))))
    some (([v1.1, v1.2.1, v1.2.2.1, v1.2.2.2.1, v1.2.2.2.2.1, v1.2.2.2.2.2.1, v1.2.2.2.2.2.2.1] : List Int).getD x.2.1.toNat (Ty.dflt (.int .i64)), ()))
noncomputable def tick_Counter_Of_c : Ctr := ⟨(.cons (.ptr (.cons (.int .i64) (.cons (.int .i64) (.cons (.int .i64) (.cons (.int .i64) (.cons (.int .i64) (.cons (.int .i64) (.cons (.int .i64) .nil)))))))) (.cons (.int .i64) .nil)), (.cons (.int .i64) .nil), tick_Counter_Of, none⟩
theorem tick_Counter_Of_ok : CtrOK Try.prog 19 tick_Counter_Of_c := fun_E (ls := []) k0 Try.func19 trivial (by kernel_rfl) (fun x => by kernel_rfl)
/-! ### easement/tick.plus: function 44 -/
noncomputable def tick_plus (x : (Int × Int × Unit)) : Option (Int × Unit) :=
  cond (decide (x.1 > (IntKind.i64.wrap ((9223372036854775807 : Int) - x.2.1))))
    (some ((9223372036854775807 : Int), ()))
    (some (IntKind.i64.wrap (x.1 + x.2.1), ()))
noncomputable def tick_plus_c : Ctr := ⟨(.cons (.int .i64) (.cons (.int .i64) .nil)), (.cons (.int .i64) .nil), tick_plus, none⟩
theorem tick_plus_ok : CtrOK Try.prog 44 tick_plus_c := fun_E (ls := []) k0 Try.func44 trivial (by kernel_rfl) (fun x => by kernel_rfl)
/-! ### (*easement/tick.Counter).Total: function 20 -/
noncomputable def k62 : FE Try.prog := ⟨[(19, tick_Counter_Of_c), (44, tick_plus_c)], [], [], [], ⟨tick_Counter_Of_ok, tick_plus_ok, trivial⟩, trivial, trivial⟩
noncomputable def tick_Counter_Total_l6_step (g : ((Option V_tick_Counter) × Int × Int × Unit) → Option ((Int × Unit) ⊕ Empty)) (x : ((Option V_tick_Counter) × Int × Int × Unit)) : Option ((Int × Unit) ⊕ Empty) :=
  cond (decide (x.2.2.1 < (7 : Int)))
    (Option.bind (tick_Counter_Of (x.1, x.2.2)) fun y1 =>
    Option.bind (tick_plus (x.2.1, y1)) fun y2 =>
    g (x.1, y2.1, IntKind.i64.wrap (x.2.2.1 + (1 : Int)), ()))
    (some (.inl (x.2.1, ())))
noncomputable def k62l1 : LCtr := ⟨[0, 3, 5], (.cons (.val (.ptr (.cons (.int .i64) (.cons (.int .i64) (.cons (.int .i64) (.cons (.int .i64) (.cons (.int .i64) (.cons (.int .i64) (.cons (.int .i64) .nil))))))))) (.cons (.val (.int .i64)) (.cons (.val (.int .i64)) .nil))), [], [], [⟨(.exit 0), [3], (.cons (.val (.int .i64)) .nil), []⟩], fun _ => [], lim tick_Counter_Total_l6_step⟩
theorem k62s : LsOK Try.prog Try.f20.ntmps (codeOf Try.f20) [(6, k62l1)] := loop_E 6 k62l1 k62 trivial (by kernel_rfl) rfl (fun g x => by kernel_rfl)
noncomputable def tick_Counter_Total (x : ((Option V_tick_Counter) × Unit)) : Option (Int × Unit) :=
  Option.bind (lim tick_Counter_Total_l6_step (x.1, (0 : Int), (0 : Int), ())) fun y3 => out1 y3
    (fun z4 =>
      some z4)
noncomputable def tick_Counter_Total_c : Ctr := ⟨(.cons (.ptr (.cons (.int .i64) (.cons (.int .i64) (.cons (.int .i64) (.cons (.int .i64) (.cons (.int .i64) (.cons (.int .i64) (.cons (.int .i64) .nil)))))))) .nil), (.cons (.int .i64) .nil), tick_Counter_Total, none⟩
theorem tick_Counter_Total_ok : CtrOK Try.prog 20 tick_Counter_Total_c := fun_E k62 Try.func20 k62s (by kernel_rfl) (fun x => by kernel_rfl)
/-! ### easement/easementref11.Members: function 21 -/
noncomputable def ref11_Members_j39_v (x : ((List Int) × Int × Bool × Unit)) : Option (V_point_Points ⊕ Empty) :=
  cond (x.2.2.1)
    (ck (roomB (x.1 ++ [x.2.1]).length 10) <|
    some (.inl (x.1 ++ [x.2.1], ())))
    (some (.inl (x.1, ())))
noncomputable def k63l1 : LCtr := ⟨[5, 6, 19], (.cons (.own (.int .i64)) (.cons (.val (.int .i64)) (.cons (.val .bool) .nil))), [], [0, 1, 6], [⟨.normal, [5], (.cons (.own (.int .i64)) .nil), [none]⟩], fun _ => [], ref11_Members_j39_v⟩
noncomputable def ref11_Members_l6_step (g : ((List Int) × Int × (List Int) × Int × Unit) → Option (V_point_Points ⊕ Empty)) (x : ((List Int) × Int × (List Int) × Int × Unit)) : Option (V_point_Points ⊕ Empty) :=
  cond (decide (x.2.2.2.1 < (x.1.length : Int)))
    (ck (inB x.2.2.2.1 (x.1.length)) <|
    Option.bind (ref11_Members_j39_v (x.2.2.1, x.2.2.2.1, (rdL (.int .i64) x.1 x.2.2.2.1) == x.2.1, ())) fun y1 => out1 y1
      (fun z2 =>
        g (x.1, x.2.1, z2.1, IntKind.i64.wrap (x.2.2.2.1 + (1 : Int)), ())))
    (some (.inl (x.2.2.1, ())))
noncomputable def k63l2 : LCtr := ⟨[0, 1, 5, 6], (.cons (.val (.lst (.int .i64))) (.cons (.val (.int .i64)) (.cons (.own (.int .i64)) (.cons (.val (.int .i64)) .nil)))), [none], [], [⟨(.exit 0), [5], (.cons (.own (.int .i64)) .nil), [none]⟩], fun _ => [], lim ref11_Members_l6_step⟩
theorem k63s : LsOK Try.prog Try.f21.ntmps (codeOf Try.f21) [(6, k63l2), (786471, k63l1)] := loop_E 6 k63l2 k0 (join_E 786471 k63l1 k0 trivial (by kernel_rfl) (fun x => by kernel_rfl)) (by kernel_rfl) rfl (fun g x => by kernel_rfl)
noncomputable def ref11_Members (x : ((List Int) × Int × Unit)) : Option ((List Int) × Unit) :=
  Option.bind (lim ref11_Members_l6_step (x.1, x.2.1, ([] : List Int), (0 : Int), ())) fun y3 => out1 y3
    (fun z4 =>
      some z4)
noncomputable def ref11_Members_c : Ctr := ⟨(.cons (.lst (.int .i64)) (.cons (.int .i64) .nil)), (.cons (.lst (.int .i64)) .nil), ref11_Members, none⟩
theorem ref11_Members_ok : CtrOK Try.prog 21 ref11_Members_c := fun_E k0 Try.func21 k63s (by kernel_rfl) (fun x => by kernel_rfl)
/-! ### easement/easementlaw11.SccTells: function 5 -/
noncomputable def k64 : FE Try.prog := ⟨[(8, law11_awake_c), (9, law10_Of_c), (17, ref11_Of_c), (18, ref11_Count_c), (19, tick_Counter_Of_c), (20, tick_Counter_Total_c), (21, ref11_Members_c), (14, scc_Parts_Alike_c), (13, scc_Parts_Members_c), (22, ref01_Same_c)], [(10, [scc_Of_p0_c, scc_Of_p1_c]), (12, [scc_Parts_Len_p0_c]), (11, [scc_Parts_Of_p0_c])], [(1000022, [14])], [], ⟨law11_awake_ok, law10_Of_ok, ref11_Of_ok, ref11_Count_ok, tick_Counter_Of_ok, tick_Counter_Total_ok, ref11_Members_ok, scc_Parts_Alike_ok, scc_Parts_Members_ok, ref01_Same_ok, trivial⟩, ⟨⟨scc_Of_p0_ok, scc_Of_p1_ok, trivial⟩, ⟨scc_Parts_Len_p0_ok, trivial⟩, ⟨scc_Parts_Of_p0_ok, trivial⟩, trivial⟩, trivial⟩
noncomputable def law11_SccTells_l24_step (g : (V_scc_Parts × Int × (List Int) × Int × Unit) → Option T16) (x : (V_scc_Parts × Int × (List Int) × Int × Unit)) : Option T16 :=
  cond (decide (x.2.2.2.1 < x.2.1))
    (Option.bind (scc_Parts_Of_p0 (x.1, x.2.2.2)) fun y18 => out1 y18
      (fun z19 =>
        ck (inB x.2.2.2.1 (x.2.2.1.length)) <|
        cond (cond (z19.1 != (rdL (.int .i64) x.2.2.1 x.2.2.2.1)) true (!z19.2.1))
          (some (.inl (false, z19.2.2)))
          (g (z19.2.2.1, x.2.1, x.2.2.1, IntKind.i64.wrap (x.2.2.2.1 + (1 : Int)), ()))))
    (some (.inr (.inl (x.1, ()))))
noncomputable def k64l1 : LCtr := ⟨[14, 0, 15, 16], (.cons (.ptr 0 (.cons (.own (.int .i64)) (.cons (.own (.lst (.int .i64))) .nil))) (.cons (.val (.int .i64)) (.cons (.val (.lst (.int .i64))) (.cons (.val (.int .i64)) .nil)))), [some 0, some 1, some 2], [0, 2, 3, 4, 14, 15], [⟨.ret, [10, 14], q51, [some 0, some 1, some 2]⟩, ⟨(.exit 0), [14], q41, [some 0, some 1, some 2]⟩], fun _ => [], lim law11_SccTells_l24_step⟩
noncomputable def law11_SccTells_j263_v (x : (Int × (List Int) × (List Int) × Bool × Unit)) : Option (V_point_Points ⊕ Empty) :=
  cond (x.2.2.2.1)
    (Option.bind (ref11_Members (x.2.1, x.1, ())) fun y25 =>
    some (.inl y25))
    (some (.inl (x.2.2.1, ())))
noncomputable def k64l2 : LCtr := ⟨[4, 15, 22, 131], (.cons (.val (.int .i64)) (.cons (.val (.lst (.int .i64))) (.cons (.own (.int .i64)) (.cons (.val .bool) .nil)))), [], [0, 2, 3, 4, 14, 19, 20, 21], [⟨.normal, [22], (.cons (.val (.lst (.int .i64))) .nil), []⟩], fun _ => [], law11_SccTells_j263_v⟩
theorem k64s : LsOK Try.prog Try.f5.ntmps (codeOf Try.f5) [(2752775, k64l2), (24, k64l1)] := join_E 2752775 k64l2 k64 (loop_E 24 k64l1 k64 trivial (by kernel_rfl) rfl (fun g x => by kernel_rfl)) (by kernel_rfl) (fun x => by kernel_rfl)
noncomputable def law11_SccTells (x : (Int × (List V_easementref08_Pair) × Int × Int × Int × Unit)) : Option (Bool × Unit) :=
  cond (cond (decide (x.1 > (14 : Int))) true (decide ((x.2.1.length : Int) > (40 : Int))))
    (Option.bind (law11_awake ()) fun y1 =>
    some y1)
    (Option.bind (law10_Of (x.1, x.2.1, ())) fun y2 =>
    cond (y2.2.1 != (0 : Int))
      (Option.bind (scc_Of_p0 (y2.1, (), ())) fun y3 => out1 y3
        (fun z4 =>
          Option.bind (scc_Parts_Len_p0 z4) fun y5 => out1 y5
            (fun z6 =>
              cond (z6.1 == (0 : Int))
                (Option.bind (law11_awake ()) fun y7 =>
                some y7)
                (some (false, ())))))
      (Option.bind (scc_Of_p1 (y2.1, ((0 : Int), (0 : Int), (0 : Int), (0 : Int), (0 : Int), (0 : Int), (0 : Int), ()), ())) fun y8 => out1 y8
        (fun z9 =>
          Option.bind (ref11_Of (x.1, x.2.1, ())) fun y10 =>
          Option.bind (scc_Parts_Len_p0 (z9.1, ())) fun y11 => out1 y11
            (fun z12 =>
              Option.bind (ref11_Count y10) fun y13 =>
              cond (!(z12.1 != y13.1))
                (Option.bind (tick_Counter_Of (some z9.2.1, (4 : Int), ())) fun y14 =>
                cond (!(decide (y14.1 < x.1)))
                  (Option.bind (tick_Counter_Of (some z9.2.1, (4 : Int), ())) fun y15 =>
                  cond (!(decide (y15.1 > (IntKind.i64.wrap ((8 : Int) * (IntKind.i64.wrap (x.1 + (x.2.1.length : Int))))))))
                    (Option.bind (tick_Counter_Total (some z9.2.1, ())) fun y16 =>
                    Option.bind (tick_Counter_Of (some z9.2.1, (4 : Int), ())) fun y17 =>
                    cond (y16.1 != y17.1)
                      (some (false, ()))
                      (Option.bind (lim law11_SccTells_l24_step (z12.2.1, x.1, y10.1, (0 : Int), ())) fun y20 => out2 y20
                        (fun z21 =>
                          some (z21.1, ()))
                        (fun z22 =>
                          let v1 := cond (cond (cond (decide (x.2.2.1 ≥ (0 : Int))) (decide (x.2.2.1 < x.1)) false) (decide (x.2.2.2.1 ≥ (0 : Int))) false) (decide (x.2.2.2.1 < x.1)) false
                          ck ((inB x.2.2.1 (y10.1.length)) || !v1) <|
                          ck ((inB x.2.2.2.1 (y10.1.length)) || !v1) <|
                          Option.bind (scc_Parts_Of_p0 (z22.1, x.2.2.1, ())) fun y23 => out1 y23
                            (fun z24 =>
                              Option.bind (law11_SccTells_j263_v (x.2.2.2.2.1, y10.1, ([] : List Int), decide (x.2.2.2.2.1 ≥ (0 : Int)), ())) fun y26 => out1 y26
                                (fun z27 =>
                                  cond (cond (z24.2.1 == (cond (decide (x.2.2.1 ≥ (0 : Int))) (decide (x.2.2.1 < x.1)) false)) (cond z24.2.1 true (z24.1 == (0 : Int))) false)
                                    (Option.bind (scc_Parts_Alike (some z24.2.2.1, x.2.2.1, x.2.2.2.1, ())) fun y28 =>
                                    cond (y28.1 == (cond v1 ((rdL (.int .i64) y10.1 x.2.2.1) == (rdL (.int .i64) y10.1 x.2.2.2.1)) false))
                                      (Option.bind (scc_Parts_Members (some z24.2.2.1, x.2.2.2.2)) fun y29 =>
                                      Option.bind (ref01_Same (y29.1, z27)) fun y30 =>
                                      cond (y30.1)
                                        (Option.bind (law11_awake ()) fun y31 =>
                                        some y31)
                                        (some (false, ())))
                                      (some (false, ())))
                                    (some (false, ())))))))
                    (some (false, ())))
                  (some (false, ())))
                (some (false, ()))))))
noncomputable def law11_SccTells_c : Ctr := ⟨(.cons (.int .i64) (.cons (.lst t_easementref08_Pair) (.cons (.int .i64) (.cons (.int .i64) (.cons (.int .i64) .nil))))), (.cons .bool .nil), law11_SccTells, none⟩
theorem law11_SccTells_ok : CtrOK Try.prog 5 law11_SccTells_c := fun_E k64 Try.func5 k64s (by kernel_rfl) (fun x => by kernel_rfl)
end Go.XD


