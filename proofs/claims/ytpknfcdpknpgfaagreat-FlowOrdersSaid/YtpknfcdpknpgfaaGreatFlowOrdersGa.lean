/- The law FlowOrders returns true for every input, and its arguments read as they did: no condition. -/
import Derived.Shelf.Sort.Plain
import Derived.Shelf.Slices.In.SortNone
import Derived.Shelf.Slices.CompactI
import Derived.Test.YtpknfcdpknpgfaaGreatProg
import Derived.KernelRfl
import Derived.Test.YtpknfcdpknpgfaaGreatEd
set_option linter.unusedVariables false
set_option linter.unusedSimpArgs false
set_option linter.unusedSectionVars false
set_option linter.unnecessarySimpa false
set_option linter.deprecated false
set_option maxRecDepth 100000
/- slices.Sort of whole numbers, by the library's own contract. -/
namespace Go.XD
open Go.Sort Go.Proofs

section
variable {P : Program} {F : Fm} {B : Nat → Prop} {S : St} {γ : Gam} {W W' : World}

/-- New blocks behind the heap. -/
theorem Hp.grow (hp : Hp F B S γ W) (os : Array Obj) (h1 : W'.heap = W.heap ++ os) (ho : W'.os = W.os) (ht : W'.tape = W.tape) (hout : W'.output = W.output) : Stp F B S γ W S γ W' ∧ Hp F B S γ W' := by
  have hold : ∀ b, b < W.heap.size → W'.heap[b]? = W.heap[b]? := fun b hb => by rw [h1, Array.getElem?_append_left hb]
  have hst : Stp F B S γ W S γ W' := ⟨fun id _ ob h => ⟨ob, h, like_refl _, rfl⟩, ho, ht, hout, by rw [h1]; simp, fun b hb _ => hold b hb, fun b h => .inl h⟩
  exact ⟨hst, hst.hp hp (fun _ h => h) (fun id ob ho => hst.ob hp ho rfl (fun g c hg => hold g (hp.blt ho hg))) hp.inj hp.obsB⟩

theorem Hp.ext' {B : Nat → Prop} {S S' : St} {γ : Gam} {W : World} (hp : Hp F B S γ W) (h : ∀ id, S'.get id = S.get id) : Hp F B S' γ W := by
  have e1 : S'.get = S.get := funext h
  have e2 : tracked S' γ = tracked S γ := by funext b; unfold tracked; rw [e1]
  have e3 : Frz F S' γ W = Frz F S γ W := by funext b; unfold Frz; rw [e2]
  exact ⟨by rw [e1, e3]; exact hp.obs, by rw [e1]; exact hp.inj, by rw [e2]; exact hp.trk, hp.kept, by rw [e1]; exact hp.obsB⟩
@[simp] theorem srt_len (l : List Int) : (srt l).length = l.length := by simp [srt]
theorem sort_write (hp : Hp F B S γ W) {id g c : Nat} {xs : List Int} {vs : Array Value} {t : TypeId} (hg : S.get id = some (.buf (.int .i64) xs)) (e1 : γ id = some (g, c)) (e3 : W.heap[g]? = some (.cells vs t (0, 0))) (e4 : xs.length ≤ c) (e5 : c * (Ty.int .i64).cells ≤ vs.size) (e6 : xs.length ≤ 140737488355328) (e7 : RepL W.cell? (Frz F S γ W) (.int .i64) xs (fun j => vs[j]?))
    (n m : Nat) (os : Array Obj) : Stp F B S γ W ⟨n, (id, some (.buf (.int .i64) (srt xs))) :: S.m⟩ γ (Sort.grow (putRow (Value.int .i64) (Sort.ahead W m) g 0 (srt xs).toArray) os) ∧
      Hp F B ⟨n, (id, some (.buf (.int .i64) (srt xs))) :: S.m⟩ γ (Sort.grow (putRow (Value.int .i64) (Sort.ahead W m) g 0 (srt xs).toArray) os) := by
  have hgl : g < W.heap.size := hp.blt hg e1
  have e5' : c ≤ vs.size := by simpa [Ty.cells] using e5
  have hfit : ∀ x ∈ srt xs, fits .i64 x := fun x hx => by
    have hx' : x ∈ xs := by simpa [srt] using hx
    obtain ⟨i, hi, rfl⟩ := List.getElem_of_mem hx'
    exact (e7 i xs[i] (List.getElem?_eq_getElem hi)).2
  have h0 := hp.write (W' := putRow (Value.int .i64) (Sort.ahead W m) g 0 (srt xs).toArray) n (ob' := .buf (.int .i64) (srt xs)) (vs' := putCells (Value.int .i64) 0 (srt xs).toArray vs) (t := t) hg e1 (by simp [like]) (by
      simp only [putRow, mapBlock, Sort.ahead]
      rw [Array.getElem?_modify, if_pos rfl, e3]
      rfl) (fun b hb => by
      simp only [putRow, mapBlock, Sort.ahead]
      rw [Array.getElem?_modify, if_neg (Ne.symm hb)]) (by simp [putRow, mapBlock, Sort.ahead]) rfl rfl rfl (by
      refine ⟨by simpa using e4, by simpa [putCells, Ty.cells] using e5', by simpa using e6, fun i x hx => ?_⟩
      have hi : i < xs.length := by
        have : i < (srt xs).length := by
          rcases Nat.lt_or_ge i (srt xs).length with h | h
          · exact h
          · rw [List.getElem?_eq_none h] at hx; cases hx
        simpa using this
      refine ⟨?_, hfit x (List.mem_of_getElem? hx)⟩
      have hx2 : (srt xs).toArray[i]! = x := by
        simp [getElem!_def, hx]
      simp only [putCells, Ty.cells, Nat.mul_one, Nat.add_zero]
      rw [Array.getElem?_mapIdx]
      have hiv : i < vs.size := by omega
      rw [Array.getElem?_eq_getElem hiv]
      simp only [Option.map_some, Nat.zero_le, true_and, List.size_toArray, srt_len, Nat.zero_add, hi, if_true, Nat.sub_zero, hx2])
  obtain ⟨k1, k2⟩ := h0
  obtain ⟨k3, k4⟩ := k2.grow (W' := Sort.grow (putRow (Value.int .i64) (Sort.ahead W m) g 0 (srt xs).toArray) os) os rfl rfl rfl rfl
  exact ⟨k1.trans k3, k4⟩


theorem hp_ins {fid : Nat} (hp : Hp F B S γ W) : Hp F (ins B fid) S γ W := hp.mono fun id h => .inl h
theorem sort_ok {ρ : Go.Shelf.Ren} (Ly : Lays.n189 P ρ) {fn : Func} (h1 : P.funcs[ρ.f 189]? = some fn) (h2 : (fn.name == "runtime.NumGoroutine") = false) (h3 : fn.body.isNone = false) : NatOK P (ρ.f 189) 0 := by
  refine ⟨⟨fn, h1, h2, h3⟩, fun {F B S γ W fid d v r} hp hf hv h => ?_⟩
  have tup : ∀ {c : Addr → Option Value} {G : Nat → Prop} {look : Nat → Option Ob} {γ' : Gam}, RepD c G look γ' (.tup []) (.tuple #[]) := by
    intros
    simp only [RepD]
    exact ⟨[], rfl, by simp only [RepDs]⟩
  cases d with
  | nils =>
    simp only [natR, Option.some.injEq] at h
    subst h
    simp only [RepD] at hv
    subst hv
    refine Calls.mono (Any.slices_Sort_int_none Ly none 0 W) ?_
    rintro e W' ⟨rfl, rfl⟩
    exact ⟨_, γ, rfl, Stp.refl F _ S γ _, hp_ins hp, tup, trivial⟩
  | sf id =>
    have hv' := hv
    simp only [RepD] at hv'
    obtain ⟨_, hv'⟩ := hv'
    simp only [natR] at h
    cases hg : S.get id with
    | none => rw [hg] at h; simp at h
    | some ob =>
      cases ob with
      | cells ds => rw [hg] at h; simp at h
      | buf e xs =>
        rw [hg] at hv' h
        simp only at hv' h
        by_cases he : e = .int .i64
        · subst he
          have hc : castT (.lst (.int .i64)) (.lst (.int .i64)) xs = some xs := by simp [castT]
          rw [hc] at h
          simp only [Option.some.injEq] at h
          subst h
          rcases hv' with ⟨g, c, r1, rfl⟩ | ⟨r1, a0, rfl⟩
          · rcases hp.obs id _ hg with ⟨q1, rfl⟩ | ⟨g', c', cur, tt, q1, q2, q3, q4, q5, q6⟩
            · rw [r1] at q1; cases q1
            · rw [r1] at q1
              simp only [Option.some.injEq, Prod.mk.injEq] at q1
              obtain ⟨rfl, rfl⟩ := q1
              have hgl : g < W.heap.size := hp.blt hg r1
              have q4' : c ≤ cur.size := by simpa [Ty.cells] using q4
              refine Calls.mono (Any.slices_Sort_int Ly g 0 c xs W (fun j hj => ?_) hgl (by omega)) ?_
              · have hj' : j < xs.length := by simpa using hj
                have := (q6 j xs[j] (List.getElem?_eq_getElem hj')).1
                simp only [Ty.cells, Nat.mul_one, Nat.add_zero] at this
                refine ⟨?_, ?_⟩
                · simp only [World.cell?, q2]
                  rw [Nat.zero_add, this]
                  simp [getElem!_def, hj']
                · simp [World.frozen?, q2]
              · rintro e W' ⟨rfl, n, os, rfl⟩
                obtain ⟨k1, k2⟩ := sort_write hp hg r1 q2 q3 q4 q5 q6 S.nx n os
                exact ⟨_, γ, rfl, k1, hp_ins k2, tup, trivial⟩
          · rcases hp.obs id _ hg with ⟨q1, rfl⟩ | ⟨g', c', cur, tt, q1, _⟩
            · refine Calls.mono (Any.slices_Sort_int_none Ly a0 0 W) ?_
              rintro e W' ⟨rfl, rfl⟩
              have hext : ∀ k, St.get ⟨S.nx, (id, some (.buf (.int .i64) (srt []))) :: S.m⟩ k = S.get k := fun k => by
                have hsr : srt [] = [] := by simp [srt]
                rw [hsr, get_cons]
                by_cases e : id = k
                · subst e
                  rw [if_pos rfl]
                  exact hg.symm
                · rw [if_neg e]
                  rfl
              exact ⟨_, γ, rfl, (Stp.refl F _ S γ _).ext (fun _ => rfl) hext, hp_ins (hp.ext' hext), tup, trivial⟩
            · rw [r1] at q1; cases q1
        · simp [castT, he] at h
  | _ => simp [natR] at h

/-! ### slices.Compact -/
theorem cpt_len (l : List Int) : (cpt l).length ≤ l.length := by
  unfold cpt Lib.compact Lib.compactUpTo
  rw [List.length_map]
  exact Nat.le_trans (List.length_filter_le _ _) (by simp)
theorem cpt_mem {l : List Int} {x : Int} (h : x ∈ cpt l) : x ∈ l := by
  unfold cpt Lib.compact Lib.compactUpTo at h
  obtain ⟨i, hi, rfl⟩ := List.mem_map.1 h
  have := List.mem_range.1 (List.mem_filter.1 hi).1
  simp [getElem!_def, this]
theorem compact_ok {ρ : Go.Shelf.Ren} (Ly : Lays2.n20 P ρ) {fn : Func} (h1 : P.funcs[ρ.f 20]? = some fn) (h2 : (fn.name == "runtime.NumGoroutine") = false) (h3 : fn.body.isNone = false) : NatOK P (ρ.f 20) 1 := by
  refine ⟨⟨fn, h1, h2, h3⟩, fun {F B S γ W fid d v r} hp hf hv h => ?_⟩
  cases d with
  | nils =>
    simp only [natR, Option.some.injEq] at h
    subst h
    simp only [RepD] at hv
    subst hv
    refine Calls.mono (Any.slices_Compact_int_empty Ly none 0 W) ?_
    rintro e W' ⟨rfl, rfl⟩
    exact ⟨_, γ, rfl, Stp.refl F _ S γ _, hp_ins hp, by simp only [RepD], trivial⟩
  | sf id =>
    have hv' := hv
    simp only [RepD] at hv'
    obtain ⟨_, hv'⟩ := hv'
    simp only [natR] at h
    cases hg : S.get id with
    | none => rw [hg] at h; simp at h
    | some ob =>
      cases ob with
      | cells ds => rw [hg] at h; simp at h
      | buf e xs =>
        rw [hg] at hv' h
        simp only at hv' h
        by_cases he : e = .int .i64
        · subst he
          have hc : castT (.lst (.int .i64)) (.lst (.int .i64)) xs = some xs := by simp [castT]
          rw [hc] at h
          simp only [Option.some.injEq] at h
          subst h
          rcases hv' with ⟨g, c, r1, rfl⟩ | ⟨r1, a0, rfl⟩
          · rcases hp.obs id _ hg with ⟨q1, rfl⟩ | ⟨g', c', cur, tt, q1, q2, q3, q4, q5, q6⟩
            · rw [r1] at q1; cases q1
            · rw [r1] at q1
              simp only [Option.some.injEq, Prod.mk.injEq] at q1
              obtain ⟨rfl, rfl⟩ := q1
              have hgl : g < W.heap.size := hp.blt hg r1
              have q4' : c ≤ cur.size := by simpa [Ty.cells] using q4
              have hcl := cpt_len xs
              refine Calls.mono (Any.slices_Compact_int Ly g 0 c xs W (fun j hj => ?_) (by omega) q3) ?_
              · have hj' : j < xs.length := by simpa using hj
                have := (q6 j xs[j] (List.getElem?_eq_getElem hj')).1
                simp only [Ty.cells, Nat.mul_one, Nat.add_zero] at this
                refine ⟨?_, ?_⟩
                · simp only [World.cell?, q2]
                  rw [Nat.zero_add, this]
                  simp [getElem!_def, hj']
                · simp [World.frozen?, q2]
              · rintro e W' ⟨rfl, n, rfl⟩
                obtain ⟨k1, k2⟩ := hp.move (fid := fid) hf S.nx (e := .int .i64) (xs := cpt xs) (W' := putRow (Value.int .i64) (Sort.ahead W n) g 0 (Lib.compact xs ++ List.replicate (xs.length - (Lib.compact xs).length) 0).toArray) (vs' := putCells (Value.int .i64) 0 (Lib.compact xs ++ List.replicate (xs.length - (Lib.compact xs).length) 0).toArray cur) (t := tt) hg r1 (by
                  simp only [putRow, mapBlock, Sort.ahead]
                  rw [Array.getElem?_modify, if_pos rfl, q2]
                  rfl) (fun b hb => by
                  simp only [putRow, mapBlock, Sort.ahead]
                  rw [Array.getElem?_modify, if_neg (Ne.symm hb)]) (by simp [putRow, mapBlock, Sort.ahead]) rfl rfl rfl (by
                  refine ⟨by omega, by simpa [putCells, Ty.cells] using q4', by omega, fun i x hx => ?_⟩
                  have hi : i < (cpt xs).length := by
                    rcases Nat.lt_or_ge i (cpt xs).length with h | h
                    · exact h
                    · rw [List.getElem?_eq_none h] at hx; cases hx
                  have hxm : x ∈ xs := cpt_mem (List.mem_of_getElem? hx)
                  refine ⟨?_, by
                    obtain ⟨i, hi, rfl⟩ := List.getElem_of_mem hxm
                    exact (q6 i xs[i] (List.getElem?_eq_getElem hi)).2⟩
                  have hcl' : (Lib.compact xs).length ≤ xs.length := hcl
                  have hi' : i < (Lib.compact xs).length := hi
                  have hx2 : (Lib.compact xs ++ List.replicate (xs.length - (Lib.compact xs).length) 0).toArray[i]! = x := by
                    have : (Lib.compact xs)[i]? = some x := hx
                    simp [getElem!_def, List.getElem?_append_left hi', this]
                  simp only [putCells, Ty.cells, Nat.mul_one, Nat.add_zero]
                  rw [Array.getElem?_mapIdx]
                  have hiv : i < cur.size := by omega
                  rw [Array.getElem?_eq_getElem hiv]
                  have hsz2 : (Lib.compact xs ++ List.replicate (xs.length - (Lib.compact xs).length) 0).toArray.size = xs.length := by simp; omega
                  simp only [Option.map_some, Nat.zero_le, true_and, hsz2, Nat.zero_add, show i < xs.length from by omega, if_true, Nat.sub_zero, hx2])
                exact ⟨_, _, rfl, k1, k2, by
                  simp only [RepD]
                  show _ ∧ _
                  rw [List.cons_append, get_cons, if_pos rfl]
                  exact ⟨rfl, .inl ⟨g, c, updG_self _ _ _, rfl⟩⟩, .inr rfl⟩
          · rcases hp.obs id _ hg with ⟨q1, rfl⟩ | ⟨g', c', cur, tt, q1, _⟩
            · obtain ⟨k1, k2⟩ := hp.allocNone (fid := fid) hf S.nx (.int .i64)
              have hp2 := k2.sub ⟨S.nx, (fid, some (.buf (.int .i64) (cpt []))) :: (id, none) :: S.m⟩ (fun k ob hk => by
                have hsr : cpt [] = [] := rfl
                rw [hsr, get_cons] at hk
                rw [get_cons]
                by_cases e : fid = k
                · rw [if_pos e] at hk ⊢
                  exact hk
                · rw [if_neg e, getM_cons] at hk
                  rw [if_neg e]
                  by_cases e2 : id = k
                  · rw [if_pos e2] at hk; cases hk
                  · rw [if_neg e2] at hk; exact hk)
              refine Calls.mono (Any.slices_Compact_int_empty Ly a0 0 W) ?_
              rintro e W' ⟨rfl, rfl⟩
              exact ⟨_, _, rfl, k1.trans (hp2.1.weak fun id h => .inl h), hp2.2, by
                simp only [RepD]
                rw [List.cons_append, get_cons, if_pos rfl]
                exact ⟨rfl, .inr ⟨updG_self _ _ _, a0, rfl⟩⟩, .inr rfl⟩
            · rw [r1] at q1; cases q1
        · simp [castT, he] at h
  | _ => simp [natR] at h
theorem frz_eq {S' : St} {id : Nat} (h : ∀ k, S'.get k = if k = id then none else S.get k) : Frz F (froS S [id]) γ W = Frz F S' γ W := by
  have e : ∀ b, tracked (froS S [id]) γ b ↔ tracked S' γ b := fun b => by
    constructor
    · rintro ⟨k, ob, c, h1, h2⟩
      rw [froS_get] at h1
      split at h1
      · cases h1
      · rename_i hn
        cases hk : S.get k with
        | none => rw [hk] at h1; simp at h1
        | some ob' => exact ⟨k, ob', c, by rw [h, if_neg (by simpa using hn)]; exact hk, h2⟩
    · rintro ⟨k, ob, c, h1, h2⟩
      rw [h] at h1
      split at h1
      · cases h1
      · rename_i hn
        exact ⟨k, froOb S.get [id] ob, c, by rw [froS_get, if_neg (by simpa using hn), h1]; rfl, h2⟩
  funext b
  unfold Frz
  rw [e b]
theorem sf_frz (hp : Hp F B S γ W) {id : Nat} {e : Ty} {xs : List e.T} {v : Value} (hb : B id) (hg : S.get id = some (.buf e xs)) (hv : RepD W.cell? (Frz F S γ W) S.get γ (.sf id) v) {S' : St} (h : ∀ k, S'.get k = if k = id then none else S.get k) (get : Nat → Option Ob) (γ' : Gam) :
    RepD W.cell? (Frz F S' γ W) get γ' (.fz (.lst e) xs) v := by
  have k := fro_rep hp [id] (d := .sf id) hb hv
  rw [frz_eq h] at k
  simp only [fro, hg] at k
  rw [show [id].any id.beq = true from by simp only [List.any_cons, List.any_nil, Bool.or_false]; exact Nat.beq_refl id] at k
  simp only [RepD] at k ⊢
  exact k
theorem compactF_ok {n : FuncId} (h : NatOK P n 1) : NatOK P n 2 := by
  refine ⟨h.1, fun {F B S γ W fid d v r} hp hf hv hr => ?_⟩
  cases d with
  | nils =>
    simp only [natR, Option.some.injEq] at hr
    subst hr
    exact h.2 hp hf hv (r := ⟨true, .nils, []⟩) rfl
  | sf id =>
    simp only [natR] at hr
    cases hg : S.get id with
    | none => rw [hg] at hr; simp at hr
    | some ob =>
      cases ob with
      | cells ds => rw [hg] at hr; simp at hr
      | buf e xs =>
        rw [hg] at hr
        simp only at hr
        cases hc : castT (.lst (.int .i64)) (.lst e) xs with
        | none => rw [hc] at hr; simp at hr
        | some ys =>
          rw [hc] at hr
          simp only [Option.some.injEq] at hr
          subst hr
          refine (h.2 hp hf hv (r := ⟨true, .sf fid, [(fid, some (.buf (.int .i64) (cpt ys))), (id, none)]⟩) (by simp only [natR]; rw [hg]; simp only; rw [hc])).mono ?_
          rintro e' W' ⟨u, γ', rfl, k1, k2, k3, k4⟩
          have hn : S.get fid = none := by
            cases hh : S.get fid with
            | none => rfl
            | some ob => exact absurd (hp.obsB fid ob hh).1 hf
          have hS : ∀ k, St.get ⟨S.nx, [(id, none)] ++ S.m⟩ k = if k = fid then none else St.get ⟨S.nx, [(fid, some (.buf (.int .i64) (cpt ys))), (id, none)] ++ S.m⟩ k := fun k => by
            simp only [List.cons_append, List.nil_append]
            rw [get_cons, get_cons, getM_cons]
            by_cases e1 : k = fid
            · subst e1
              rw [if_pos rfl]
              split
              · rfl
              · exact hn
            · rw [if_neg e1, if_neg (Ne.symm e1)]
          have hp2 := k2.sub ⟨S.nx, [(id, none)] ++ S.m⟩ (fun k ob hk => by
            rw [hS] at hk
            split at hk
            · cases hk
            · exact hk)
          exact ⟨u, γ', rfl, k1.trans (hp2.1.weak fun id h => .inl h), hp2.2, sf_frz k2 (.inr rfl) (by rw [List.cons_append, get_cons, if_pos rfl]) k3 hS _ _, trivial⟩
  | _ => simp [natR] at hr
end
end Go.XD


/- A function of the library is in the program. -/
namespace Go.XD
open Go.Proofs Go.Shelf

def ren189 : Go.Shelf.Ren := ⟨fun | 125 => 84 | 128 => 111 | 129 => 112 | 189 => 57 | 215 => 154 | 216 => 108 | 257 => 83 | 294 => 102 | 295 => 103 | 296 => 104 | 297 => 105 | 298 => 106 | 299 => 107 | 300 => 109 | 301 => 110 | 328 => 149 | 329 => 150 | 330 => 151 | 331 => 152 | 332 => 153 | 343 => 191 | n => n, fun | 0 => 0 | 3 => 3 | 4 => 4 | 5 => 5 | 9 => 9 | 28 => 38 | 46 => 140 | 51 => 174 | 53 => 176 | 131 => 42 | 182 => 166 | 183 => 167 | 218 => 223 | 222 => 227 | 228 => 264 | 229 => 265 | n => n, fun n => n⟩
theorem lays189 : Lays.n189 Tryz.prog ren189 where
  mixed := by kernel_rfl
  f125 := Tryz.func84.trans (congrArg some (by kernel_rfl))
  f128 := Tryz.func111.trans (congrArg some (by kernel_rfl))
  f129 := Tryz.func112.trans (congrArg some (by kernel_rfl))
  f189 := Tryz.func57.trans (congrArg some (by kernel_rfl))
  f215 := Tryz.func154.trans (congrArg some (by kernel_rfl))
  f216 := Tryz.func108.trans (congrArg some (by kernel_rfl))
  f257 := Tryz.func83.trans (congrArg some (by kernel_rfl))
  f294 := Tryz.func102.trans (congrArg some (by kernel_rfl))
  f295 := Tryz.func103.trans (congrArg some (by kernel_rfl))
  f296 := Tryz.func104.trans (congrArg some (by kernel_rfl))
  f297 := Tryz.func105.trans (congrArg some (by kernel_rfl))
  f298 := Tryz.func106.trans (congrArg some (by kernel_rfl))
  f299 := Tryz.func107.trans (congrArg some (by kernel_rfl))
  f300 := Tryz.func109.trans (congrArg some (by kernel_rfl))
  f301 := Tryz.func110.trans (congrArg some (by kernel_rfl))
  f328 := Tryz.func149.trans (congrArg some (by kernel_rfl))
  f329 := Tryz.func150.trans (congrArg some (by kernel_rfl))
  f330 := Tryz.func151.trans (congrArg some (by kernel_rfl))
  f331 := Tryz.func152.trans (congrArg some (by kernel_rfl))
  f332 := Tryz.func153.trans (congrArg some (by kernel_rfl))
  f343 := Tryz.func191.trans (congrArg some (by kernel_rfl))
  t0 := Tryz.underlying0
  a0 := Tryz.isAgg0
  z0 := Tryz.sizeOf0
  v0 := Tryz.zeroValue0
  t3 := Tryz.underlying3
  a3 := Tryz.isAgg3
  z3 := Tryz.sizeOf3
  v3 := Tryz.zeroValue3
  t4 := Tryz.underlying4
  a4 := Tryz.isAgg4
  z4 := Tryz.sizeOf4
  v4 := Tryz.zeroValue4
  t5 := Tryz.underlying5
  a5 := Tryz.isAgg5
  z5 := Tryz.sizeOf5
  v5 := Tryz.zeroValue5
  t9 := Tryz.underlying9
  a9 := Tryz.isAgg9
  z9 := Tryz.sizeOf9
  v9 := Tryz.zeroValue9
  t28 := Tryz.underlying38
  a28 := Tryz.isAgg38
  z28 := Tryz.sizeOf38
  v28 := Tryz.zeroValue38
  t46 := Tryz.underlying140
  a46 := Tryz.isAgg140
  z46 := Tryz.sizeOf140
  v46 := Tryz.zeroValue140
  t51 := Tryz.underlying174
  a51 := Tryz.isAgg174
  z51 := Tryz.sizeOf174
  v51 := Tryz.zeroValue174
  t53 := Tryz.underlying176
  a53 := Tryz.isAgg176
  z53 := Tryz.sizeOf176
  v53 := Tryz.zeroValue176
  t131 := Tryz.underlying42
  a131 := Tryz.isAgg42
  z131 := Tryz.sizeOf42
  v131 := Tryz.zeroValue42
  t182 := Tryz.underlying166
  a182 := Tryz.isAgg166
  z182 := Tryz.sizeOf166
  v182 := Tryz.zeroValue166
  t183 := Tryz.underlying167
  a183 := Tryz.isAgg167
  z183 := Tryz.sizeOf167
  v183 := Tryz.zeroValue167
  t218 := Tryz.underlying223
  a218 := Tryz.isAgg223
  z218 := Tryz.sizeOf223
  v218 := Tryz.zeroValue223
  t222 := Tryz.underlying227
  a222 := Tryz.isAgg227
  z222 := Tryz.sizeOf227
  v222 := Tryz.zeroValue227
  t228 := Tryz.underlying264
  a228 := Tryz.isAgg264
  z228 := Tryz.sizeOf264
  v228 := Tryz.zeroValue264
  t229 := Tryz.underlying265
  a229 := Tryz.isAgg265
  z229 := Tryz.sizeOf265
  v229 := Tryz.zeroValue265
theorem S189_ok : NatOK Tryz.prog 57 0 := sort_ok lays189 (fn := Tryz.f57) Tryz.func57 (by kernel_rfl) (by kernel_rfl)
end Go.XD


/- A function of the library is in the program. -/
namespace Go.XD
open Go.Proofs Go.Shelf

def ren20 : Go.Shelf.Ren := ⟨fun | 20 => 58 | n => n, fun | 0 => 0 | 3 => 3 | 4 => 4 | 22 => 38 | n => n, fun n => n⟩
theorem lays20 : Lays2.n20 Tryz.prog ren20 where
  mixed := by kernel_rfl
  f20 := Tryz.func58.trans (congrArg some (by kernel_rfl))
  t0 := Tryz.underlying0
  a0 := Tryz.isAgg0
  z0 := Tryz.sizeOf0
  v0 := Tryz.zeroValue0
  t3 := Tryz.underlying3
  a3 := Tryz.isAgg3
  z3 := Tryz.sizeOf3
  v3 := Tryz.zeroValue3
  t4 := Tryz.underlying4
  a4 := Tryz.isAgg4
  z4 := Tryz.sizeOf4
  v4 := Tryz.zeroValue4
  t22 := Tryz.underlying38
  a22 := Tryz.isAgg38
  z22 := Tryz.sizeOf38
  v22 := Tryz.zeroValue38
  i3 := by kernel_rfl
theorem S20_ok : NatOK Tryz.prog 58 1 := compact_ok lays20 (fn := Tryz.f58) Tryz.func58 (by kernel_rfl) (by kernel_rfl)
theorem S20f_ok : NatOK Tryz.prog 58 2 := compactF_ok S20_ok
end Go.XD


namespace Go.XD
open Go.Proofs

abbrev t_api_Slot : Ty := (.st (.cons (.int .i64) (.cons .bool .nil)))
abbrev V_api_Slot : Type := (Int × Bool × Unit)
abbrev t_api_Type : Ty := (.st (.cons (.lst t_api_Slot) .nil))
abbrev V_api_Type : Type := ((List V_api_Slot) × Unit)
abbrev t_easementref08_Pair : Ty := (.st (.cons (.int .i64) (.cons (.int .i64) .nil)))
abbrev V_easementref08_Pair : Type := (Int × Int × Unit)
abbrev t_api_Sig : Ty := (.st (.cons (.int .i64) (.cons (.lst t_easementref08_Pair) (.cons (.lst t_api_Type) (.cons (.lst t_api_Slot) .nil)))))
abbrev V_api_Sig : Type := (Int × (List V_easementref08_Pair) × (List V_api_Type) × (List V_api_Slot) × Unit)
abbrev t_api_Prov : Ty := (.st (.cons (.int .i64) (.cons (.int .i64) (.cons (.int .i64) (.cons (.int .i64) (.cons .bool .nil))))))
abbrev V_api_Prov : Type := (Int × Int × Int × Int × Bool × Unit)
abbrev t_api_Block : Ty := (.st (.cons (.lst t_api_Prov) (.cons (.int .i64) (.cons (.int .i64) (.cons (.int .i64) (.cons (.lst (.int .i64)) (.cons (.lst (.int .i64)) (.cons (.lst (.int .i64)) .nil))))))))
abbrev V_api_Block : Type := ((List V_api_Prov) × Int × Int × Int × (List Int) × (List Int) × (List Int) × Unit)
abbrev t_api_Body : Ty := (.st (.cons (.int .i64) (.cons (.int .i64) (.cons (.lst t_easementref08_Pair) (.cons (.lst t_api_Type) (.cons (.lst t_api_Slot) (.cons (.lst t_api_Sig) (.cons (.lst t_api_Block) .nil))))))))
abbrev V_api_Body : Type := (Int × Int × (List V_easementref08_Pair) × (List V_api_Type) × (List V_api_Slot) × (List V_api_Sig) × (List V_api_Block) × Unit)
abbrev t_stmt_fields : Ty := (.st (.cons .bool (.cons .bool (.cons .bool .nil))))
abbrev V_stmt_fields : Type := (Bool × Bool × Bool × Unit)
abbrev t_relate_maker : Ty := (.st (.cons (.lst t_api_Prov) .nil))
abbrev V_relate_maker : Type := ((List V_api_Prov) × Unit)
abbrev t_api_Term : Ty := (.st (.cons (.int .i64) (.cons (.int .i64) (.cons (.int .i64) (.cons (.lst (.int .i64)) (.cons (.lst (.int .i64)) (.cons (.lst (.int .i64)) .nil)))))))
abbrev V_api_Term : Type := (Int × Int × Int × (List Int) × (List Int) × (List Int) × Unit)
abbrev t_term_Around : Ty := (.st (.cons (.int .i64) (.cons (.int .i64) (.cons (.lst t_api_Type) (.cons (.lst t_api_Slot) (.cons (.lst t_api_Sig) .nil))))))
abbrev V_term_Around : Type := (Int × Int × (List V_api_Type) × (List V_api_Slot) × (List V_api_Sig) × Unit)
abbrev t_valid_Fault : Ty := (.st (.cons (.int .i64) (.cons (.int .i64) (.cons (.int .i64) (.cons (.int .i64) .nil)))))
abbrev V_valid_Fault : Type := (Int × Int × Int × Int × Unit)
abbrev t_point_Points : Ty := (.st (.cons (.lst (.int .i64)) .nil))
abbrev V_point_Points : Type := ((List Int) × Unit)
abbrev t_graph_Graph : Ty := (.st (.cons (.int .i64) (.cons (.lst t_easementref08_Pair) (.cons (.lst (.int .i32)) (.cons (.lst (.int .i32)) (.cons (.lst (.int .i32)) (.cons (.lst (.int .i32)) .nil)))))))
abbrev V_graph_Graph : Type := (Int × (List V_easementref08_Pair) × (List Int) × (List Int) × (List Int) × (List Int) × Unit)
abbrev t_flow_Flow : Ty := (.st (.cons (.ptr (.cons (.lst (.int .i64)) .nil)) (.cons (.ptr (.cons (.int .i64) (.cons (.lst t_easementref08_Pair) (.cons (.lst (.int .i32)) (.cons (.lst (.int .i32)) (.cons (.lst (.int .i32)) (.cons (.lst (.int .i32)) .nil))))))) .nil)))
abbrev V_flow_Flow : Type := ((Option V_point_Points) × (Option V_graph_Graph) × Unit)
abbrev t_flow_frame : Ty := (.st (.cons (.int .i64) (.cons (.lst (.int .i64)) .nil)))
abbrev V_flow_frame : Type := (Int × (List Int) × Unit)
abbrev t_easementref22_Point : Ty := (.st (.cons (.int .i64) (.cons (.int .i64) (.cons .bool .nil))))
abbrev V_easementref22_Point : Type := (Int × Int × Bool × Unit)
abbrev T1 : Type := ((Bool × V_api_Body × Unit) ⊕ ((V_api_Body × Unit) ⊕ Empty))
abbrev T2 : Type := ((Bool × V_api_Body × Unit) ⊕ ((Int × V_api_Body × Unit) ⊕ Empty))
abbrev T4 : Type := (((Int × Int × (List V_easementref08_Pair) × (List V_api_Type) × (List V_api_Slot) × (List V_api_Sig) × (List V_api_Block) × Unit × Int × Int × Int × Int × Unit) × Unit) ⊕ Empty)
abbrev T7 : Type := (((Int × Int × (List V_easementref08_Pair) × (List V_api_Type) × (List V_api_Slot) × (List V_api_Sig) × (List V_api_Block) × Unit × Int × Int × Int × Int × Unit) × V_api_Body × Unit) ⊕ Empty)
abbrev T9 : Type := ((Int × Int × (List V_easementref08_Pair) × (List V_api_Type) × (List V_api_Slot) × (List V_api_Sig) × (List V_api_Block) × Unit × Int × Int × Int × Int × Unit) × V_api_Body × (List V_easementref08_Pair) × Int × Int × Unit)
abbrev T10 : Type := ((Int × Int × (List V_easementref08_Pair) × (List V_api_Type) × (List V_api_Slot) × (List V_api_Sig) × (List V_api_Block) × Unit × Int × Int × Int × Int × Unit) × Unit)
abbrev T11 : Type := ((List V_api_Slot) × Unit × (List V_api_Slot) × Int × Int × Unit)
abbrev T12 : Type := (V_api_Sig × (List V_easementref08_Pair) × Int × Int × Unit)
abbrev T13 : Type := ((Int × V_api_Sig × (List V_api_Type) × Unit) ⊕ ((V_api_Sig × (List V_api_Type) × Unit) ⊕ Empty))
abbrev T14 : Type := ((Int × Int × (List V_easementref08_Pair) × (List V_api_Type) × (List V_api_Slot) × (List V_api_Sig) × (List V_api_Block) × Unit × Int × Int × Int × Int × Unit) × V_api_Body × (List V_api_Type) × Int × Int × Unit)
abbrev T16 : Type := ((Int × Int × (List V_easementref08_Pair) × (List V_api_Type) × (List V_api_Slot) × (List V_api_Sig) × (List V_api_Block) × Unit × Int × Int × Int × Int × Unit) × (List V_api_Sig) × Int × Int × Unit)
abbrev T18 : Type := (V_relate_maker × (List V_api_Slot) × Int × Int × (List V_api_Slot) × Int × Int × Unit)
abbrev T21 : Type := ((Int × V_api_Term × Unit) ⊕ ((Int × V_api_Term × Unit) ⊕ Empty))
abbrev T22 : Type := ((List Int) × ((Option (Int × Unit)) × Unit) × Int × Int × Unit)
abbrev T23 : Type := ((Int × (Unit × Unit) × V_api_Type × Unit) ⊕ ((V_api_Type × V_api_Type × Unit) ⊕ Empty))
abbrev T24 : Type := ((List Int) × (List V_api_Prov) × (List V_easementref08_Pair) × Int × Int × Unit)
abbrev T25 : Type := ((List Int) × (List V_api_Type) × (List V_api_Prov) × (List V_api_Type) × Int × Int × Unit)
abbrev T26 : Type := (((List V_api_Prov) × Int × (List V_api_Prov) × Unit) ⊕ (V_relate_maker ⊕ Empty))
abbrev T27 : Type := (V_api_Sig × (List Int) × (List V_api_Type) × V_api_Type × Unit)
abbrev T28 : Type := (V_term_Around × (List V_api_Type) × (List Int) × Int × Int × Unit)
abbrev T30 : Type := ((Int × Int × (List V_easementref08_Pair) × (List V_api_Type) × (List V_api_Slot) × (List V_api_Sig) × (List V_api_Block) × Unit × Int × Int × Int × Int × Unit) × Int × (List V_api_Block) × Int × Int × Unit)
abbrev T31 : Type := ((Int × Int × (List V_easementref08_Pair) × (List V_api_Type) × (List V_api_Slot) × (List V_api_Sig) × (List V_api_Block) × Unit × Int × Int × Int × Int × Unit) × V_api_Body × Int × (List V_api_Prov) × Int × Int × Unit)
abbrev T32 : Type := ((Int × Int × (List V_easementref08_Pair) × (List V_api_Type) × (List V_api_Slot) × (List V_api_Sig) × (List V_api_Block) × Unit × Int × Int × Int × Int × Unit) × V_api_Body × V_term_Around × (List V_api_Block) × Int × Int × Unit)
abbrev T33 : Type := (((Int × Int × (List V_easementref08_Pair) × (List V_api_Type) × (List V_api_Slot) × (List V_api_Sig) × (List V_api_Block) × Unit × Int × Int × Int × Int × Unit) × V_api_Body × V_term_Around × Unit) ⊕ Empty)
abbrev T36 : Type := ((((Option V_point_Points) × Unit) × (Int × Unit) × Unit) × Int × Int × Unit)
abbrev T37 : Type := ((Int × (((Option V_point_Points) × Unit) × (Int × Unit) × Unit) × Unit) ⊕ Empty)
abbrev T39 : Type := (((Bool × Unit) × Unit) × (List Int) × (List V_easementref08_Pair) × Int × Int × Unit)
abbrev T40 : Type := (((Bool × Unit) × Unit) × (List Int) × (List Int) × (List V_easementref08_Pair) × Int × Int × Unit)
abbrev T41 : Type := ((((Bool × Unit) × Unit) × (List Int) × (List Int) × Unit) ⊕ Empty)
abbrev T42 : Type := (((Option V_point_Points) × Unit × Unit) × (List Int) × (List Int) × Int × Int × Unit)
abbrev T43 : Type := (((List Int) × ((Option V_point_Points) × Unit × Unit) × Unit) ⊕ Empty)
abbrev T44 : Type := ((List V_easementref08_Pair) × Int × (List Int) × Int × Int × Unit)
abbrev T45 : Type := (V_api_Body × ((Option V_point_Points) × Unit × Unit) × (List V_easementref08_Pair) × Int × Int × Unit)
abbrev T46 : Type := (((List V_easementref08_Pair) × V_api_Body × ((Option V_point_Points) × Unit × Unit) × Unit) ⊕ Empty)
abbrev T47 : Type := ((Option V_graph_Graph) × (List Int) × (List V_flow_frame) × Nat × Unit)
abbrev T48 : Type := (((List V_flow_frame) × (List Int) × Unit) ⊕ (((List V_flow_frame) × (List Int) × Unit) ⊕ Empty))
abbrev T49 : Type := ((Option V_graph_Graph) × (List Int) × (List Int) × (List V_flow_frame) × Unit)
abbrev T50 : Type := (((List Int) × (List Int) × (List V_flow_frame) × Unit) ⊕ Empty)
abbrev T51 : Type := ((Option V_graph_Graph) × (List Int) × (List Int) × Int × Int × Unit)
abbrev T52 : Type := ((V_api_Body × V_valid_Fault × Unit) ⊕ ((V_api_Body × V_valid_Fault × Unit) ⊕ Empty))
abbrev T53 : Type := ((Bool × V_api_Type × V_api_Type × Unit) ⊕ ((V_api_Type × V_api_Type × Unit) ⊕ Empty))
abbrev T55 : Type := ((List V_api_Prov) × (List V_api_Slot) × (List V_api_Slot) × Int × Int × Int × Unit)
abbrev T57 : Type := (((List V_api_Prov) × Int × V_api_Type × Unit) ⊕ ((V_api_Type × Unit) ⊕ Empty))
abbrev T58 : Type := (V_api_Type × V_api_Type × (List Int) × (List V_api_Slot) × Int × Unit)
abbrev T59 : Type := ((Int × V_api_Type × (Unit × Unit) × (List V_api_Slot) × Unit) ⊕ (((List V_api_Slot) × V_api_Type × V_api_Type × Unit) ⊕ Empty))
abbrev T60 : Type := (V_api_Sig × (List Int) × (List V_api_Type) × (List V_api_Prov) × Int × Unit)
abbrev T61 : Type := (((List V_api_Prov) × Int × V_api_Sig × (List V_api_Prov) × Unit) ⊕ (((List V_api_Prov) × V_api_Sig × Unit) ⊕ Empty))
abbrev T62 : Type := (V_api_Term × V_term_Around × (List V_api_Type) × Int × Unit)
abbrev T63 : Type := (((List V_api_Type) × V_api_Term × V_term_Around × Unit) ⊕ Empty)
abbrev T64 : Type := (V_api_Body × V_valid_Fault × Int × (List V_api_Prov) × Int × Unit)
abbrev T65 : Type := ((V_api_Body × V_valid_Fault × V_term_Around × Unit) ⊕ ((V_api_Body × V_valid_Fault × V_term_Around × Unit) ⊕ Empty))
abbrev T66 : Type := (((List V_easementref22_Point) × V_api_Body × Unit) ⊕ Empty)
abbrev T67 : Type := ((List V_easementref22_Point) × Int × (List Int) × Int × Unit)
abbrev T69 : Type := (V_api_Body × (List V_easementref22_Point) × (List V_easementref08_Pair) × Int × Int × Unit)
abbrev T70 : Type := (V_api_Body × (List V_easementref22_Point) × (List V_easementref08_Pair) × Int × Unit)
abbrev T72 : Type := ((List V_easementref08_Pair) × Int × (List Int) × Int × Unit)
abbrev T73 : Type := ((List V_easementref08_Pair) × (List Int) × (List Int) × Int × Unit)
abbrev T75 : Type := ((List V_easementref08_Pair) × (List Int) × (List Int) × (List Int) × Int × Unit)
abbrev T77 : Type := (Int × (List V_easementref08_Pair) × (List Int) × (List Int) × Int × Unit)
abbrev T78 : Type := (V_graph_Graph × (List V_easementref08_Pair) × Int × Int × Unit)
abbrev T79 : Type := ((List V_easementref08_Pair) × (List V_easementref08_Pair) × Int × Unit)
abbrev T81 : Type := ((List V_easementref08_Pair) × (List Int) × Bool × Int × Unit)
abbrev q1 : CP := (.cons (.val (.int .i64)) (.cons (.val (.lst t_easementref08_Pair)) (.cons (.val (.lst t_api_Type)) (.cons (.val (.lst t_api_Slot)) .nil))))
abbrev q2 : CP := (.cons (.val (.int .i64)) (.cons (.val (.int .i64)) (.cons (.val (.lst t_easementref08_Pair)) (.cons (.val (.lst t_api_Type)) (.cons (.val (.lst t_api_Slot)) (.cons (.val (.lst t_api_Sig)) (.cons (.val (.lst t_api_Block)) .nil)))))))
abbrev q5 : CP := (.cons (.val (.int .i64)) (.cons (.val (.int .i64)) (.cons (.val (.lst t_easementref08_Pair)) (.cons (.val (.lst t_api_Type)) (.cons (.val (.lst t_api_Slot)) (.cons (.val (.lst t_api_Sig)) (.cons (.val (.lst t_api_Block)) (.cons (.cst true) (.cons (.val (.int .i64)) (.cons (.val (.int .i64)) (.cons (.val (.int .i64)) (.cons (.val (.int .i64)) .nil))))))))))))
abbrev q18 : CP := (.cons (.val (.int .i64)) (.cons (.val (.int .i64)) (.cons (.val (.int .i64)) (.cons (.val (.int .i64)) (.cons (.val .bool) .nil)))))
abbrev q27 : CP := (.cons (.val .bool) (.cons (.ptr q18) (.cons (.ptr (.cons (.val .bool) (.cons (.val .bool) (.cons (.val .bool) .nil)))) .nil)))
abbrev q29 : CP := (.cons (.val (.int .i64)) (.cons (.val (.int .i64)) (.cons (.val (.int .i64)) (.cons (.val (.lst (.int .i64))) (.cons (.val (.lst (.int .i64))) (.cons (.val (.lst (.int .i64))) .nil))))))
abbrev q33 : CP := (.cons (.val (.lst (.int .i64))) (.cons (.clo 209 (.cons (.val (.ptr (.cons (.int .i64) .nil))) .nil)) .nil))
abbrev q40 : CP := (.cons (.val (.int .i64)) (.cons (.val (.int .i64)) (.cons (.val (.lst t_api_Type)) (.cons (.val (.lst t_api_Slot)) (.cons (.val (.lst t_api_Sig)) .nil)))))
abbrev q46 : CP := (.cons (.val (.int .i64)) (.cons (.val (.int .i64)) (.cons (.val (.int .i64)) (.cons (.val (.int .i64)) .nil))))
abbrev q51 : CP := (.cons (.ptr (.cons (.val (.ptr (.cons (.lst (.int .i64)) .nil))) .nil)) (.cons (.ptr (.cons (.val (.int .i64)) .nil)) .nil))
abbrev q61 : CP := (.cons (.val (.ptr (.cons (.lst (.int .i64)) .nil))) (.cons (.cst true) .nil))
abbrev q113 : CP := (.cons (.val (.int .i64)) (.cons (.own t_easementref08_Pair) (.cons (.val (.lst (.int .i32))) (.cons (.val (.lst (.int .i32))) (.cons (.val (.lst (.int .i32))) (.cons (.val (.lst (.int .i32))) .nil))))))
abbrev q118 : CP := (.cons (.own (.int .i64)) (.cons (.val (.int .i64)) (.cons (.val .bool) .nil)))
noncomputable def k0 : FE Tryz.prog := ⟨[], [], [], [], trivial, trivial, trivial⟩

/-! ### easement/easementref15.Few: function 44 -/
noncomputable def ref15_Few (x : (V_api_Type × Int × Unit)) : Option (Bool × Unit) :=
  some (decide ((x.1.1.length : Int) ≤ x.2.1), ())
noncomputable def ref15_Few_c : Ctr := ⟨(.cons t_api_Type (.cons (.int .i64) .nil)), (.cons .bool .nil), ref15_Few, none⟩
theorem ref15_Few_ok : CtrOK Tryz.prog 44 ref15_Few_c := fun_E (ls := []) k0 Tryz.func44 trivial (by kernel_rfl) (fun x => by kernel_rfl)
/-! ### easement/easementref17.Few: function 45 -/
noncomputable def k2 : FE Tryz.prog := ⟨[(44, ref15_Few_c)], [], [], [], ⟨ref15_Few_ok, trivial⟩, trivial, trivial⟩
noncomputable def ref17_Few_l8_step (g : (V_api_Sig × Int × Unit) → Option ((Bool × V_api_Sig × Unit) ⊕ ((V_api_Sig × Unit) ⊕ Empty))) (x : (V_api_Sig × Int × Unit)) : Option ((Bool × V_api_Sig × Unit) ⊕ ((V_api_Sig × Unit) ⊕ Empty)) :=
  cond (decide (x.2.1 < (x.1.2.2.1.length : Int)))
    (ck (inB x.2.1 (x.1.2.2.1.length)) <|
    Option.bind (ref15_Few (rdL t_api_Type x.1.2.2.1 x.2.1, (20 : Int), ())) fun y2 =>
    cond (!y2.1)
      (some (.inl (false, x.1, ())))
      (g (x.1, IntKind.i64.wrap (x.2.1 + (1 : Int)), ())))
    (some (.inr (.inl (x.1, ()))))
noncomputable def k2l1 : LCtr := ⟨[1, 3], (.cons (.ptr q1) (.cons (.val (.int .i64)) .nil)), [some 0], [], [⟨.ret, [2, 1], (.cons (.val .bool) (.cons (.ptr q1) .nil)), [some 0]⟩, ⟨(.exit 0), [1], (.cons (.ptr q1) .nil), [some 0]⟩], fun _ => [], lim ref17_Few_l8_step⟩
theorem k2s : LsOK Tryz.prog Tryz.f45.ntmps (codeOf Tryz.f45) [(8, k2l1)] := loop_E 8 k2l1 k2 trivial (by kernel_rfl) rfl (fun g x => by kernel_rfl)
noncomputable def ref17_Few (x : (V_api_Sig × Unit)) : Option (Bool × Unit) :=
  cond (!(cond (decide ((x.1.2.1.length : Int) > (20 : Int))) true (decide ((x.1.2.2.1.length : Int) > (20 : Int)))))
    (Option.bind (ref15_Few (x.1.2.2.2, (20 : Int), ())) fun y1 =>
    cond (!y1.1)
      (some (false, ()))
      (Option.bind (lim ref17_Few_l8_step (x.1, (0 : Int), ())) fun y3 => out2 y3
        (fun z4 =>
          some (z4.1, ()))
        (fun z5 =>
          some (true, ()))))
    (some (false, ()))
noncomputable def ref17_Few_c : Ctr := ⟨(.cons t_api_Sig .nil), (.cons .bool .nil), ref17_Few, none⟩
theorem ref17_Few_ok : CtrOK Tryz.prog 45 ref17_Few_c := fun_E k2 Tryz.func45 k2s (by kernel_rfl) (fun x => by kernel_rfl)
/-! ### easement/easementref20.Small: function 9 -/
noncomputable def k3 : FE Tryz.prog := ⟨[(44, ref15_Few_c), (45, ref17_Few_c)], [], [], [], ⟨ref15_Few_ok, ref17_Few_ok, trivial⟩, trivial, trivial⟩
noncomputable def ref20_Small_l8_step (g : (V_api_Body × Int × Unit) → Option T1) (x : (V_api_Body × Int × Unit)) : Option T1 :=
  cond (decide (x.2.1 < (x.1.2.2.2.1.length : Int)))
    (ck (inB x.2.1 (x.1.2.2.2.1.length)) <|
    Option.bind (ref15_Few (rdL t_api_Type x.1.2.2.2.1 x.2.1, (20 : Int), ())) fun y2 =>
    cond (!y2.1)
      (some (.inl (false, x.1, ())))
      (g (x.1, IntKind.i64.wrap (x.2.1 + (1 : Int)), ())))
    (some (.inr (.inl (x.1, ()))))
noncomputable def k3l1 : LCtr := ⟨[1, 3], (.cons (.ptr q2) (.cons (.val (.int .i64)) .nil)), [some 0], [1], [⟨.ret, [2, 1], (.cons (.val .bool) (.cons (.ptr q2) .nil)), [some 0]⟩, ⟨(.exit 0), [1], (.cons (.ptr q2) .nil), [some 0]⟩], fun _ => [], lim ref20_Small_l8_step⟩
noncomputable def ref20_Small_l18_step (g : (V_api_Body × Int × Unit) → Option T1) (x : (V_api_Body × Int × Unit)) : Option T1 :=
  cond (decide (x.2.1 < (x.1.2.2.2.2.2.1.length : Int)))
    (ck (inB x.2.1 (x.1.2.2.2.2.2.1.length)) <|
    Option.bind (ref17_Few (rdL t_api_Sig x.1.2.2.2.2.2.1 x.2.1, ())) fun y6 =>
    cond (!y6.1)
      (some (.inl (false, x.1, ())))
      (g (x.1, IntKind.i64.wrap (x.2.1 + (1 : Int)), ())))
    (some (.inr (.inl (x.1, ()))))
noncomputable def k3l2 : LCtr := ⟨[1, 4], (.cons (.ptr q2) (.cons (.val (.int .i64)) .nil)), [some 0], [1], [⟨.ret, [2, 1], (.cons (.val .bool) (.cons (.ptr q2) .nil)), [some 0]⟩, ⟨(.exit 2), [1], (.cons (.ptr q2) .nil), [some 0]⟩], fun _ => [], lim ref20_Small_l18_step⟩
noncomputable def ref20_Small_l30_step (g : (V_api_Body × Int × Int × Unit) → Option T2) (x : (V_api_Body × Int × Int × Unit)) : Option T2 :=
  cond (decide (x.2.2.1 < (x.1.2.2.2.2.2.2.1.length : Int)))
    (ck (inB x.2.2.1 (x.1.2.2.2.2.2.2.1.length)) <|
    ck (inB x.2.2.1 (x.1.2.2.2.2.2.2.1.length)) <|
    let v1 := (rdL t_api_Block x.1.2.2.2.2.2.2.1 x.2.2.1).2.2.2.2
    cond (cond (cond (decide ((v1.1.length : Int) > (20 : Int))) true (decide ((v1.2.1.length : Int) > (20 : Int)))) true (decide ((v1.2.2.1.length : Int) > (20 : Int))))
      (some (.inl (false, x.1, ())))
      (g (x.1, IntKind.i64.wrap (x.2.1 + ((rdL t_api_Block x.1.2.2.2.2.2.2.1 x.2.2.1).1.length : Int)), IntKind.i64.wrap (x.2.2.1 + (1 : Int)), ())))
    (some (.inr (.inl (x.2.1, x.1, ()))))
noncomputable def k3l3 : LCtr := ⟨[1, 5, 6], (.cons (.ptr q2) (.cons (.val (.int .i64)) (.cons (.val (.int .i64)) .nil))), [some 0], [], [⟨.ret, [2, 1], (.cons (.val .bool) (.cons (.ptr q2) .nil)), [some 0]⟩, ⟨(.exit 4), [5, 1], (.cons (.val (.int .i64)) (.cons (.ptr q2) .nil)), [some 0]⟩], fun _ => [], lim ref20_Small_l30_step⟩
theorem k3s : LsOK Tryz.prog Tryz.f9.ntmps (codeOf Tryz.f9) [(30, k3l3), (18, k3l2), (8, k3l1)] := loop_E 30 k3l3 k3 (loop_E 18 k3l2 k3 (loop_E 8 k3l1 k3 trivial (by kernel_rfl) rfl (fun g x => by kernel_rfl)) (by kernel_rfl) rfl (fun g x => by kernel_rfl)) (by kernel_rfl) rfl (fun g x => by kernel_rfl)
noncomputable def ref20_Small (x : (V_api_Body × Unit)) : Option (Bool × Unit) :=
  cond (!(cond (cond (cond (decide ((x.1.2.2.1.length : Int) > (20 : Int))) true (decide ((x.1.2.2.2.1.length : Int) > (10 : Int)))) true (decide ((x.1.2.2.2.2.2.1.length : Int) > (4 : Int)))) true (decide ((x.1.2.2.2.2.2.2.1.length : Int) > (8 : Int)))))
    (Option.bind (ref15_Few ((x.1.2.2.2.2.1, ()), (20 : Int), ())) fun y1 =>
    cond (!y1.1)
      (some (false, ()))
      (Option.bind (lim ref20_Small_l8_step (x.1, (0 : Int), ())) fun y3 => out2 y3
        (fun z4 =>
          some (z4.1, ()))
        (fun z5 =>
          Option.bind (lim ref20_Small_l18_step (z5.1, (0 : Int), ())) fun y7 => out2 y7
            (fun z8 =>
              some (z8.1, ()))
            (fun z9 =>
              Option.bind (lim ref20_Small_l30_step (z9.1, (0 : Int), (0 : Int), ())) fun y10 => out2 y10
                (fun z11 =>
                  some (z11.1, ()))
                (fun z12 =>
                  some (decide (z12.1 ≤ (24 : Int)), ()))))))
    (some (false, ()))
noncomputable def ref20_Small_c : Ctr := ⟨(.cons t_api_Body .nil), (.cons .bool .nil), ref20_Small, none⟩
theorem ref20_Small_ok : CtrOK Tryz.prog 9 ref20_Small_c := fun_E k3 Tryz.func9 k3s (by kernel_rfl) (fun x => by kernel_rfl)
/-! ### (*easement/tick.Counter).Add: function 174, at objects -/
noncomputable def tick_Counter_Add_p0 (x : (Unit × Int × Int × Unit)) : Option (Unit ⊕ Empty) :=
  some (.inl ())
noncomputable def k4L : LCtr := ⟨[0, 1, 2], (.cons (.cst true) (.cons (.val (.int .i64)) (.cons (.val (.int .i64)) .nil))), [], [], [⟨.ret, [], .nil, []⟩], fun _ => [], tick_Counter_Add_p0⟩
noncomputable def tick_Counter_Add_p0_c : PI := mkPI Tryz.f174 k4L
theorem tick_Counter_Add_p0_ok : PIOK Tryz.prog 174 tick_Counter_Add_p0_c := proc_E (ls := []) k0 Tryz.func174 trivial (by kernel_rfl) (fun x => by kernel_rfl)
/-! ### (*easement/valid.checker).wrong: function 137, at objects -/
noncomputable def k5 : FE Tryz.prog := ⟨[], [(174, [tick_Counter_Add_p0_c])], [], [], trivial, ⟨⟨tick_Counter_Add_p0_ok, trivial⟩, trivial⟩, trivial⟩
noncomputable def valid_checker_wrong_p0_j49_v (x : ((Int × Int × (List V_easementref08_Pair) × (List V_api_Type) × (List V_api_Slot) × (List V_api_Sig) × (List V_api_Block) × Unit × Int × Int × Int × Int × Unit) × Int × Int × Int × Int × Bool × Unit)) : Option T4 :=
  cond (x.2.2.2.2.2.1)
    (some (.inl ((x.1.1, x.1.2.1, x.1.2.2.1, x.1.2.2.2.1, x.1.2.2.2.2.1, x.1.2.2.2.2.2.1, x.1.2.2.2.2.2.2.1, (), x.2.1, x.2.2.1, x.2.2.2.1, x.2.2.2.2.1, ()), ())))
    (some (.inl ((x.1.1, x.1.2.1, x.1.2.2.1, x.1.2.2.2.1, x.1.2.2.2.2.1, x.1.2.2.2.2.2.1, x.1.2.2.2.2.2.2.1, (), x.1.2.2.2.2.2.2.2.2), ())))
noncomputable def k5l1 : LCtr := ⟨[0, 1, 2, 3, 4, 24], (.cons (.ptr q5) (.cons (.val (.int .i64)) (.cons (.val (.int .i64)) (.cons (.val (.int .i64)) (.cons (.val (.int .i64)) (.cons (.val .bool) .nil)))))), [], [0, 1, 2, 3, 4], [⟨.normal, [0], (.cons (.ptr q5) .nil), [some 0]⟩], fun _ => [], valid_checker_wrong_p0_j49_v⟩
theorem k5s : LsOK Tryz.prog Tryz.f137.ntmps (codeOf Tryz.f137) [(262193, k5l1)] := join_E 262193 k5l1 k5 trivial (by kernel_rfl) (fun x => by kernel_rfl)
noncomputable def valid_checker_wrong_p0 (x : ((Int × Int × (List V_easementref08_Pair) × (List V_api_Type) × (List V_api_Slot) × (List V_api_Sig) × (List V_api_Block) × Unit × Int × Int × Int × Int × Unit) × Int × Int × Int × Int × Unit)) : Option T4 :=
  Option.bind (tick_Counter_Add_p0 ((), (1 : Int), (1 : Int), ())) fun y1 => out1 y1
    (fun z2 =>
      Option.bind (valid_checker_wrong_p0_j49_v ((x.1.1, x.1.2.1, x.1.2.2.1, x.1.2.2.2.1, x.1.2.2.2.2.1, x.1.2.2.2.2.2.1, x.1.2.2.2.2.2.2.1, (), x.1.2.2.2.2.2.2.2.2), x.2.1, x.2.2.1, x.2.2.2.1, x.2.2.2.2.1, cond (x.1.2.2.2.2.2.2.2.2.1 == (0 : Int)) (x.2.1 != (0 : Int)) false, ())) fun y3 => out1 y3
        (fun z4 =>
          some (.inl ((z4.1.1, z4.1.2.1, z4.1.2.2.1, z4.1.2.2.2.1, z4.1.2.2.2.2.1, z4.1.2.2.2.2.2.1, z4.1.2.2.2.2.2.2.1, (), z4.1.2.2.2.2.2.2.2.2), ()))))
noncomputable def k5L : LCtr := ⟨[0, 1, 2, 3, 4], (.cons (.ptr q5) (.cons (.val (.int .i64)) (.cons (.val (.int .i64)) (.cons (.val (.int .i64)) (.cons (.val (.int .i64)) .nil))))), [], [], [⟨.normal, [0], (.cons (.ptr q5) .nil), [some 0]⟩], fun _ => [], valid_checker_wrong_p0⟩
noncomputable def valid_checker_wrong_p0_c : PI := mkPI Tryz.f137 k5L
theorem valid_checker_wrong_p0_ok : PIOK Tryz.prog 137 valid_checker_wrong_p0_c := proc_E k5 Tryz.func137 k5s (by kernel_rfl) (fun x => by kernel_rfl)
/-! ### easement/valid.many: function 138 -/
noncomputable def valid_many (x : (Int × Unit)) : Option (Int × Unit) :=
  cond (decide (x.1 > (65536 : Int)))
    (some ((6 : Int), ()))
    (some ((0 : Int), ()))
noncomputable def valid_many_c : Ctr := ⟨(.cons (.int .i64) .nil), (.cons (.int .i64) .nil), valid_many, none⟩
theorem valid_many_ok : CtrOK Tryz.prog 138 valid_many_c := fun_E (ls := []) k0 Tryz.func138 trivial (by kernel_rfl) (fun x => by kernel_rfl)
/-! ### (*easement/valid.checker).head: function 94, at objects -/
noncomputable def k7 : FE Tryz.prog := ⟨[(138, valid_many_c)], [(137, [valid_checker_wrong_p0_c])], [], [], ⟨valid_many_ok, trivial⟩, ⟨⟨valid_checker_wrong_p0_ok, trivial⟩, trivial⟩, trivial⟩
noncomputable def valid_checker_head_p0_j29_v (x : ((Int × Int × (List V_easementref08_Pair) × (List V_api_Type) × (List V_api_Slot) × (List V_api_Sig) × (List V_api_Block) × Unit × Int × Int × Int × Int × Unit) × V_api_Body × Bool × Unit)) : Option T7 :=
  cond (x.2.2.1)
    (Option.bind (valid_checker_wrong_p0 ((x.1.1, x.1.2.1, x.1.2.2.1, x.1.2.2.2.1, x.1.2.2.2.2.1, x.1.2.2.2.2.2.1, x.1.2.2.2.2.2.2.1, (), x.1.2.2.2.2.2.2.2.2), (7 : Int), (0 : Int), (0 : Int), (0 : Int), ())) fun y1 => out1 y1
      (fun z2 =>
        some (.inl ((z2.1.1, z2.1.2.1, z2.1.2.2.1, z2.1.2.2.2.1, z2.1.2.2.2.2.1, z2.1.2.2.2.2.2.1, z2.1.2.2.2.2.2.2.1, (), z2.1.2.2.2.2.2.2.2.2), x.2.1, ()))))
    (Option.bind (valid_many (x.2.1.2.1, ())) fun y3 =>
    Option.bind (valid_checker_wrong_p0 ((x.1.1, x.1.2.1, x.1.2.2.1, x.1.2.2.2.1, x.1.2.2.2.2.1, x.1.2.2.2.2.2.1, x.1.2.2.2.2.2.2.1, (), x.1.2.2.2.2.2.2.2.2), y3.1, (0 : Int), (0 : Int), (0 : Int), ())) fun y4 => out1 y4
      (fun z5 =>
        some (.inl ((z5.1.1, z5.1.2.1, z5.1.2.2.1, z5.1.2.2.2.1, z5.1.2.2.2.2.1, z5.1.2.2.2.2.2.1, z5.1.2.2.2.2.2.2.1, (), z5.1.2.2.2.2.2.2.2.2), x.2.1, ()))))
noncomputable def k7l1 : LCtr := ⟨[0, 2, 14], (.cons (.ptr q5) (.cons (.ptr q2) (.cons (.val .bool) .nil))), [], [0, 2], [⟨.normal, [0, 2], (.cons (.ptr q5) (.cons (.ptr q2) .nil)), [some 0, some 1]⟩], fun _ => [], valid_checker_head_p0_j29_v⟩
noncomputable def valid_checker_head_p0_j125_v (x : ((Int × Int × (List V_easementref08_Pair) × (List V_api_Type) × (List V_api_Slot) × (List V_api_Sig) × (List V_api_Block) × Unit × Int × Int × Int × Int × Unit) × Int × Bool × Unit)) : Option T4 :=
  cond (x.2.2.1)
    (Option.bind (valid_checker_wrong_p0 ((x.1.1, x.1.2.1, x.1.2.2.1, x.1.2.2.2.1, x.1.2.2.2.2.1, x.1.2.2.2.2.2.1, x.1.2.2.2.2.2.2.1, (), x.1.2.2.2.2.2.2.2.2), (7 : Int), (1 : Int), x.2.1, (0 : Int), ())) fun y11 => out1 y11
      (fun z12 =>
        some (.inl ((z12.1.1, z12.1.2.1, z12.1.2.2.1, z12.1.2.2.2.1, z12.1.2.2.2.2.1, z12.1.2.2.2.2.2.1, z12.1.2.2.2.2.2.2.1, (), z12.1.2.2.2.2.2.2.2.2), ()))))
    (some (.inl ((x.1.1, x.1.2.1, x.1.2.2.1, x.1.2.2.2.1, x.1.2.2.2.2.1, x.1.2.2.2.2.2.1, x.1.2.2.2.2.2.2.1, (), x.1.2.2.2.2.2.2.2.2), ())))
noncomputable def k7l2 : LCtr := ⟨[0, 3, 62], (.cons (.ptr q5) (.cons (.val (.int .i64)) (.cons (.val .bool) .nil))), [], [0, 2, 34, 35, 36], [⟨.normal, [0], (.cons (.ptr q5) .nil), [some 0]⟩], fun _ => [], valid_checker_head_p0_j125_v⟩
noncomputable def valid_checker_head_p0_l12_step (g : T9 → Option T7) (x : T9) : Option T7 :=
  cond (decide (x.2.2.2.2.1 < x.2.2.2.1))
    (ck (inB x.2.2.2.2.1 (x.2.2.1.length)) <|
    let v1 := rdL t_easementref08_Pair x.2.2.1 x.2.2.2.2.1
    Option.bind (valid_checker_head_p0_j125_v ((x.1.1, x.1.2.1, x.1.2.2.1, x.1.2.2.2.1, x.1.2.2.2.2.1, x.1.2.2.2.2.2.1, x.1.2.2.2.2.2.2.1, (), x.1.2.2.2.2.2.2.2.2), x.2.2.2.2.1, cond (cond (cond (decide (v1.1 < (0 : Int))) true (decide (v1.1 ≥ x.2.1.1))) true (decide (v1.2.1 < (0 : Int)))) true (decide (v1.2.1 ≥ x.2.1.1)), ())) fun y13 => out1 y13
      (fun z14 =>
        g ((z14.1.1, z14.1.2.1, z14.1.2.2.1, z14.1.2.2.2.1, z14.1.2.2.2.2.1, z14.1.2.2.2.2.2.1, z14.1.2.2.2.2.2.2.1, (), z14.1.2.2.2.2.2.2.2.2), x.2.1, x.2.2.1, x.2.2.2.1, IntKind.i64.wrap (x.2.2.2.2.1 + (1 : Int)), ())))
    (some (.inl ((x.1.1, x.1.2.1, x.1.2.2.1, x.1.2.2.2.1, x.1.2.2.2.2.1, x.1.2.2.2.2.2.1, x.1.2.2.2.2.2.2.1, (), x.1.2.2.2.2.2.2.2.2), x.2.1, ())))
noncomputable def k7l3 : LCtr := ⟨[0, 2, 34, 35, 36], (.cons (.ptr q5) (.cons (.ptr q2) (.cons (.val (.lst t_easementref08_Pair)) (.cons (.val (.int .i64)) (.cons (.val (.int .i64)) .nil))))), [some 0, some 1], [0], [⟨(.exit 1), [0, 2], (.cons (.ptr q5) (.cons (.ptr q2) .nil)), [some 0, some 1]⟩], fun _ => [], lim valid_checker_head_p0_l12_step⟩
theorem k7s : LsOK Tryz.prog Tryz.f94.ntmps (codeOf Tryz.f94) [(12, k7l3), (1179773, k7l2), (8590327837, k7l1)] := loop_E 12 k7l3 k7 (join_E 1179773 k7l2 k7 (join_E 8590327837 k7l1 k7 trivial (by kernel_rfl) (fun x => by kernel_rfl)) (by kernel_rfl) (fun x => by kernel_rfl)) (by kernel_rfl) rfl (fun g x => by kernel_rfl)
noncomputable def valid_checker_head_p0 (x : T10) : Option T4 :=
  Option.bind (valid_checker_head_p0_j29_v ((x.1.1, x.1.2.1, x.1.2.2.1, x.1.2.2.2.1, x.1.2.2.2.2.1, x.1.2.2.2.2.2.1, x.1.2.2.2.2.2.2.1, (), x.1.2.2.2.2.2.2.2.2), (x.1.1, x.1.2.1, x.1.2.2.1, x.1.2.2.2.1, x.1.2.2.2.2.1, x.1.2.2.2.2.2.1, x.1.2.2.2.2.2.2.1, ()), cond (decide (x.1.1 < (1 : Int))) true (decide (x.1.2.1 < x.1.1)), ())) fun y6 => out1 y6
    (fun z7 =>
      Option.bind (valid_many ((z7.2.1.2.2.1.length : Int), ())) fun y8 =>
      Option.bind (valid_checker_wrong_p0 ((z7.1.1, z7.1.2.1, z7.1.2.2.1, z7.1.2.2.2.1, z7.1.2.2.2.2.1, z7.1.2.2.2.2.2.1, z7.1.2.2.2.2.2.2.1, (), z7.1.2.2.2.2.2.2.2.2), y8.1, (1 : Int), (0 : Int), (0 : Int), ())) fun y9 => out1 y9
        (fun z10 =>
          Option.bind (lim valid_checker_head_p0_l12_step ((z10.1.1, z10.1.2.1, z10.1.2.2.1, z10.1.2.2.2.1, z10.1.2.2.2.2.1, z10.1.2.2.2.2.2.1, z10.1.2.2.2.2.2.2.1, (), z10.1.2.2.2.2.2.2.2.2), z7.2.1, z7.2.1.2.2.1, (z7.2.1.2.2.1.length : Int), (0 : Int), ())) fun y15 => out1 y15
            (fun z16 =>
              some (.inl ((z16.1.1, z16.1.2.1, z16.1.2.2.1, z16.1.2.2.2.1, z16.1.2.2.2.2.1, z16.1.2.2.2.2.2.1, z16.1.2.2.2.2.2.2.1, (), z16.1.2.2.2.2.2.2.2.2), ())))))
noncomputable def k7L : LCtr := ⟨[0], (.cons (.ptr q5) .nil), [], [], [⟨.normal, [0], (.cons (.ptr q5) .nil), [some 0]⟩], fun _ => [], valid_checker_head_p0⟩
noncomputable def valid_checker_head_p0_c : PI := mkPI Tryz.f94 k7L
theorem valid_checker_head_p0_ok : PIOK Tryz.prog 94 valid_checker_head_p0_c := proc_E k7 Tryz.func94 k7s (by kernel_rfl) (fun x => by kernel_rfl)
/-! ### easement/valid.some: function 139 -/
noncomputable def k8 : FE Tryz.prog := ⟨[(138, valid_many_c)], [], [], [], ⟨valid_many_ok, trivial⟩, trivial, trivial⟩
noncomputable def valid_some (x : (Int × Unit)) : Option (Int × Unit) :=
  cond (x.1 == (0 : Int))
    (some ((14 : Int), ()))
    (Option.bind (valid_many x) fun y1 =>
    some y1)
noncomputable def valid_some_c : Ctr := ⟨(.cons (.int .i64) .nil), (.cons (.int .i64) .nil), valid_some, none⟩
theorem valid_some_ok : CtrOK Tryz.prog 139 valid_some_c := fun_E (ls := []) k8 Tryz.func139 trivial (by kernel_rfl) (fun x => by kernel_rfl)
/-! ### easement/row.Check: function 140 -/
noncomputable def row_Check_l8_step (g : (Int × (List V_api_Slot) × Int × Int × Unit) → Option ((Int × Unit) ⊕ (Unit ⊕ Empty))) (x : (Int × (List V_api_Slot) × Int × Int × Unit)) : Option ((Int × Unit) ⊕ (Unit ⊕ Empty)) :=
  cond (decide (x.2.2.2.1 < x.2.2.1))
    (ck (inB x.2.2.2.1 (x.2.1.length)) <|
    let v1 := (rdL t_api_Slot x.2.1 x.2.2.2.1).1
    cond (cond (decide (v1 < (0 : Int))) true (decide (v1 ≥ x.1)))
      (some (.inl ((7 : Int), ())))
      (g (x.1, x.2.1, x.2.2.1, IntKind.i64.wrap (x.2.2.2.1 + (1 : Int)), ())))
    (some (.inr (.inl ())))
noncomputable def k9l1 : LCtr := ⟨[1, 12, 13, 14], (.cons (.val (.int .i64)) (.cons (.val (.lst t_api_Slot)) (.cons (.val (.int .i64)) (.cons (.val (.int .i64)) .nil)))), [], [], [⟨.ret, [4], (.cons (.val (.int .i64)) .nil), []⟩, ⟨(.exit 0), [], .nil, []⟩], fun _ => [], lim row_Check_l8_step⟩
theorem k9s : LsOK Tryz.prog Tryz.f140.ntmps (codeOf Tryz.f140) [(8, k9l1)] := loop_E 8 k9l1 k0 trivial (by kernel_rfl) rfl (fun g x => by kernel_rfl)
noncomputable def row_Check (x : (V_api_Type × Int × Unit)) : Option (Int × Unit) :=
  cond (decide ((x.1.1.length : Int) > (16 : Int)))
    (some ((6 : Int), ()))
    (Option.bind (lim row_Check_l8_step (x.2.1, x.1.1, (x.1.1.length : Int), (0 : Int), ())) fun y1 => out2 y1
      (fun z2 =>
        some z2)
      (fun z3 =>
        some ((0 : Int), ())))
noncomputable def row_Check_c : Ctr := ⟨(.cons t_api_Type (.cons (.int .i64) .nil)), (.cons (.int .i64) .nil), row_Check, none⟩
theorem row_Check_ok : CtrOK Tryz.prog 140 row_Check_c := fun_E k0 Tryz.func140 k9s (by kernel_rfl) (fun x => by kernel_rfl)
/-! ### easement/row.Shape$1: function 176 -/
noncomputable def row_Shape_1 (x : (V_api_Slot × V_api_Slot × Unit)) : Option (Bool × Unit) :=
  some (x.1.2.1 == x.2.1.2.1, ())
noncomputable def row_Shape_1_c : Ctr := ⟨(.cons t_api_Slot (.cons t_api_Slot .nil)), (.cons .bool .nil), row_Shape_1, none⟩
theorem row_Shape_1_ok : CtrOK Tryz.prog 176 row_Shape_1_c := fun_E (ls := []) k0 Tryz.func176 trivial (by kernel_rfl) (fun x => by kernel_rfl)
/-! ### slices.EqualFunc[[]easement/api.Slot,[]easement/api.Slot,easement/api.Slot,easement/api.Slot]: function 175, at objects -/
noncomputable def k11 : FE Tryz.prog := ⟨[(176, row_Shape_1_c)], [], [], [], ⟨row_Shape_1_ok, trivial⟩, trivial, trivial⟩
noncomputable def slices_EqualFunc_82_p0_l8_step (g : T11 → Option ((Bool × Unit) ⊕ (Unit ⊕ Empty))) (x : T11) : Option ((Bool × Unit) ⊕ (Unit ⊕ Empty)) :=
  cond (decide (x.2.2.2.2.1 < x.2.2.2.1))
    (ck (inB x.2.2.2.2.1 (x.2.2.1.length)) <|
    ck (inB x.2.2.2.2.1 (x.1.length)) <|
    Option.bind (row_Shape_1 (rdL t_api_Slot x.2.2.1 x.2.2.2.2.1, rdL t_api_Slot x.1 x.2.2.2.2.1, ())) fun y1 =>
    cond (!y1.1)
      (some (.inl (false, ())))
      (g (x.1, (), x.2.2.1, x.2.2.2.1, IntKind.i64.wrap (x.2.2.2.2.1 + (1 : Int)), ())))
    (some (.inr (.inl ())))
noncomputable def k11l1 : LCtr := ⟨[1, 2, 15, 16, 17], (.cons (.val (.lst t_api_Slot)) (.cons (.clo 176 .nil) (.cons (.val (.lst t_api_Slot)) (.cons (.val (.int .i64)) (.cons (.val (.int .i64)) .nil))))), [], [0, 1, 2], [⟨.ret, [6], (.cons (.val .bool) .nil), []⟩, ⟨(.exit 0), [], .nil, []⟩], fun _ => [], lim slices_EqualFunc_82_p0_l8_step⟩
theorem k11s : LsOK Tryz.prog Tryz.f175.ntmps (codeOf Tryz.f175) [(8, k11l1)] := loop_E 8 k11l1 k11 trivial (by kernel_rfl) rfl (fun g x => by kernel_rfl)
noncomputable def slices_EqualFunc_82_p0 (x : ((List V_api_Slot) × (List V_api_Slot) × Unit × Unit)) : Option ((Bool × Unit) ⊕ Empty) :=
  cond ((x.1.length : Int) != (x.2.1.length : Int))
    (some (.inl (false, ())))
    (Option.bind (lim slices_EqualFunc_82_p0_l8_step (x.2.1, (), x.1, (x.1.length : Int), (0 : Int), ())) fun y2 => out2 y2
      (fun z3 =>
        some (.inl z3))
      (fun z4 =>
        some (.inl (true, ()))))
noncomputable def k11L : LCtr := ⟨[0, 1, 2], (.cons (.val (.lst t_api_Slot)) (.cons (.val (.lst t_api_Slot)) (.cons (.clo 176 .nil) .nil))), [], [], [⟨.ret, [6], (.cons (.val .bool) .nil), []⟩], fun _ => [], slices_EqualFunc_82_p0⟩
noncomputable def slices_EqualFunc_82_p0_c : PI := mkPI Tryz.f175 k11L
theorem slices_EqualFunc_82_p0_ok : PIOK Tryz.prog 175 slices_EqualFunc_82_p0_c := proc_E k11 Tryz.func175 k11s (by kernel_rfl) (fun x => by kernel_rfl)
/-! ### easement/row.Shape: function 141 -/
noncomputable def k12 : FE Tryz.prog := ⟨[], [(175, [slices_EqualFunc_82_p0_c])], [], [], trivial, ⟨⟨slices_EqualFunc_82_p0_ok, trivial⟩, trivial⟩, trivial⟩
noncomputable def row_Shape (x : (V_api_Type × V_api_Type × Unit)) : Option (Bool × Unit) :=
  Option.bind (slices_EqualFunc_82_p0 (x.1.1, x.2.1.1, (), ())) fun y1 => out1 y1
    (fun z2 =>
      some z2)
noncomputable def row_Shape_c : Ctr := ⟨(.cons t_api_Type (.cons t_api_Type .nil)), (.cons .bool .nil), row_Shape, none⟩
theorem row_Shape_ok : CtrOK Tryz.prog 141 row_Shape_c := fun_E (ls := []) k12 Tryz.func141 trivial (by kernel_rfl) (fun x => by kernel_rfl)
/-! ### easement/sig.Check: function 142 -/
noncomputable def k13 : FE Tryz.prog := ⟨[(140, row_Check_c)], [], [], [], ⟨row_Check_ok, trivial⟩, trivial, trivial⟩
noncomputable def sig_Check_l12_step (g : T12 → Option ((Int × V_api_Sig × Unit) ⊕ ((V_api_Sig × Unit) ⊕ Empty))) (x : T12) : Option ((Int × V_api_Sig × Unit) ⊕ ((V_api_Sig × Unit) ⊕ Empty)) :=
  cond (decide (x.2.2.2.1 < x.2.2.1))
    (ck (inB x.2.2.2.1 (x.2.1.length)) <|
    let v1 := rdL t_easementref08_Pair x.2.1 x.2.2.2.1
    cond (cond (cond (cond (decide (v1.1 < (0 : Int))) true (decide (v1.1 ≥ x.1.1))) true (decide (v1.2.1 < (0 : Int)))) true (decide (v1.2.1 ≥ x.1.1)))
      (some (.inl ((7 : Int), x.1, ())))
      (g (x.1, x.2.1, x.2.2.1, IntKind.i64.wrap (x.2.2.2.1 + (1 : Int)), ())))
    (some (.inr (.inl (x.1, ()))))
noncomputable def k13l1 : LCtr := ⟨[1, 29, 30, 31], (.cons (.ptr q1) (.cons (.val (.lst t_easementref08_Pair)) (.cons (.val (.int .i64)) (.cons (.val (.int .i64)) .nil)))), [some 0], [1], [⟨.ret, [2, 1], (.cons (.val (.int .i64)) (.cons (.ptr q1) .nil)), [some 0]⟩, ⟨(.exit 1), [1], (.cons (.ptr q1) .nil), [some 0]⟩], fun _ => [], lim sig_Check_l12_step⟩
noncomputable def sig_Check_l24_step (g : (V_api_Sig × (List V_api_Type) × Int × Int × Unit) → Option T13) (x : (V_api_Sig × (List V_api_Type) × Int × Int × Unit)) : Option T13 :=
  cond (decide (x.2.2.2.1 < x.2.2.1))
    (ck (inB x.2.2.2.1 (x.2.1.length)) <|
    Option.bind (row_Check (x.2.1.getD x.2.2.2.1.toNat (Ty.dflt t_api_Type), x.1.1, ())) fun y4 =>
    cond (y4.1 != (0 : Int))
      (some (.inl (y4.1, x.1, x.2.1, ())))
      (g (x.1, x.2.1, x.2.2.1, IntKind.i64.wrap (x.2.2.2.1 + (1 : Int)), ())))
    (some (.inr (.inl (x.1, x.2.1, ()))))
noncomputable def k13l2 : LCtr := ⟨[1, 64, 65, 66], (.cons (.ptr q1) (.cons (.own t_api_Type) (.cons (.val (.int .i64)) (.cons (.val (.int .i64)) .nil)))), [some 0, some 1], [], [⟨.ret, [2, 1, 64], (.cons (.val (.int .i64)) (.cons (.ptr q1) (.cons (.own t_api_Type) .nil))), [some 0, some 1]⟩, ⟨(.exit 3), [1, 64], (.cons (.ptr q1) (.cons (.own t_api_Type) .nil)), [some 0, some 1]⟩], fun _ => [], lim sig_Check_l24_step⟩
theorem k13s : LsOK Tryz.prog Tryz.f142.ntmps (codeOf Tryz.f142) [(24, k13l2), (12, k13l1)] := loop_E 24 k13l2 k13 (loop_E 12 k13l1 k13 trivial (by kernel_rfl) rfl (fun g x => by kernel_rfl)) (by kernel_rfl) rfl (fun g x => by kernel_rfl)
noncomputable def sig_Check (x : (V_api_Sig × Unit)) : Option (Int × Unit) :=
  cond (decide (x.1.1 < (0 : Int)))
    (some ((7 : Int), ()))
    (cond (cond (cond (decide (x.1.1 > (16 : Int))) true (decide ((x.1.2.1.length : Int) > (16 : Int)))) true (decide ((x.1.2.2.1.length : Int) > (16 : Int))))
      (some ((6 : Int), ()))
      (Option.bind (lim sig_Check_l12_step (x.1, x.1.2.1, (x.1.2.1.length : Int), (0 : Int), ())) fun y1 => out2 y1
        (fun z2 =>
          some (z2.1, ()))
        (fun z3 =>
          let v1 := ([] : List V_api_Type) ++ z3.1.2.2.1
          ck (roomB v1.length 26) <|
          ck (roomB (v1 ++ [z3.1.2.2.2]).length 26) <|
          Option.bind (lim sig_Check_l24_step (z3.1, v1 ++ [z3.1.2.2.2], ((v1 ++ [z3.1.2.2.2]).length : Int), (0 : Int), ())) fun y5 => out2 y5
            (fun z6 =>
              some (z6.1, ()))
            (fun z7 =>
              some ((0 : Int), ())))))
noncomputable def sig_Check_c : Ctr := ⟨(.cons t_api_Sig .nil), (.cons (.int .i64) .nil), sig_Check, none⟩
theorem sig_Check_ok : CtrOK Tryz.prog 142 sig_Check_c := fun_E k13 Tryz.func142 k13s (by kernel_rfl) (fun x => by kernel_rfl)
/-! ### (*easement/valid.checker).types: function 95, at objects -/
noncomputable def k14 : FE Tryz.prog := ⟨[(139, valid_some_c), (140, row_Check_c), (141, row_Shape_c), (138, valid_many_c), (142, sig_Check_c)], [(137, [valid_checker_wrong_p0_c])], [], [], ⟨valid_some_ok, row_Check_ok, row_Shape_ok, valid_many_ok, sig_Check_ok, trivial⟩, ⟨⟨valid_checker_wrong_p0_ok, trivial⟩, trivial⟩, trivial⟩
noncomputable def valid_checker_types_p0_l6_step (g : T14 → Option T7) (x : T14) : Option T7 :=
  cond (decide (x.2.2.2.2.1 < x.2.2.2.1))
    (ck (inB x.2.2.2.2.1 (x.2.2.1.length)) <|
    Option.bind (row_Check (rdL t_api_Type x.2.2.1 x.2.2.2.2.1, x.2.1.2.1, ())) fun y4 =>
    Option.bind (valid_checker_wrong_p0 ((x.1.1, x.1.2.1, x.1.2.2.1, x.1.2.2.2.1, x.1.2.2.2.2.1, x.1.2.2.2.2.2.1, x.1.2.2.2.2.2.2.1, (), x.1.2.2.2.2.2.2.2.2), y4.1, (2 : Int), x.2.2.2.2.1, (0 : Int), ())) fun y5 => out1 y5
      (fun z6 =>
        g ((z6.1.1, z6.1.2.1, z6.1.2.2.1, z6.1.2.2.2.1, z6.1.2.2.2.2.1, z6.1.2.2.2.2.2.1, z6.1.2.2.2.2.2.2.1, (), z6.1.2.2.2.2.2.2.2.2), x.2.1, x.2.2.1, x.2.2.2.1, IntKind.i64.wrap (x.2.2.2.2.1 + (1 : Int)), ())))
    (some (.inl ((x.1.1, x.1.2.1, x.1.2.2.1, x.1.2.2.2.1, x.1.2.2.2.2.1, x.1.2.2.2.2.2.1, x.1.2.2.2.2.2.2.1, (), x.1.2.2.2.2.2.2.2.2), x.2.1, ())))
noncomputable def k14l1 : LCtr := ⟨[0, 2, 18, 19, 20], (.cons (.ptr q5) (.cons (.ptr q2) (.cons (.val (.lst t_api_Type)) (.cons (.val (.int .i64)) (.cons (.val (.int .i64)) .nil))))), [some 0, some 1], [0, 2], [⟨(.exit 0), [0, 2], (.cons (.ptr q5) (.cons (.ptr q2) .nil)), [some 0, some 1]⟩], fun _ => [], lim valid_checker_types_p0_l6_step⟩
noncomputable def valid_checker_types_p0_j107_v (x : ((Int × Int × (List V_easementref08_Pair) × (List V_api_Type) × (List V_api_Slot) × (List V_api_Sig) × (List V_api_Block) × Unit × Int × Int × Int × Int × Unit) × Bool × Unit)) : Option T4 :=
  cond (x.2.1)
    (Option.bind (valid_checker_wrong_p0 ((x.1.1, x.1.2.1, x.1.2.2.1, x.1.2.2.2.1, x.1.2.2.2.2.1, x.1.2.2.2.2.2.1, x.1.2.2.2.2.2.2.1, (), x.1.2.2.2.2.2.2.2.2), (8 : Int), (3 : Int), (0 : Int), (0 : Int), ())) fun y13 => out1 y13
      (fun z14 =>
        some (.inl ((z14.1.1, z14.1.2.1, z14.1.2.2.1, z14.1.2.2.2.1, z14.1.2.2.2.2.1, z14.1.2.2.2.2.2.1, z14.1.2.2.2.2.2.2.1, (), z14.1.2.2.2.2.2.2.2.2), ()))))
    (some (.inl ((x.1.1, x.1.2.1, x.1.2.2.1, x.1.2.2.2.1, x.1.2.2.2.2.1, x.1.2.2.2.2.2.1, x.1.2.2.2.2.2.2.1, (), x.1.2.2.2.2.2.2.2.2), ())))
noncomputable def k14l2 : LCtr := ⟨[0, 53], (.cons (.ptr q5) (.cons (.val .bool) .nil)), [], [0, 2], [⟨.normal, [0], (.cons (.ptr q5) .nil), [some 0]⟩], fun _ => [], valid_checker_types_p0_j107_v⟩
noncomputable def valid_checker_types_p0_l24_step (g : T16 → Option T4) (x : T16) : Option T4 :=
  cond (decide (x.2.2.2.1 < x.2.2.1))
    (ck (inB x.2.2.2.1 (x.2.1.length)) <|
    Option.bind (sig_Check (rdL t_api_Sig x.2.1 x.2.2.2.1, ())) fun y20 =>
    Option.bind (valid_checker_wrong_p0 ((x.1.1, x.1.2.1, x.1.2.2.1, x.1.2.2.2.1, x.1.2.2.2.2.1, x.1.2.2.2.2.2.1, x.1.2.2.2.2.2.2.1, (), x.1.2.2.2.2.2.2.2.2), y20.1, (4 : Int), x.2.2.2.1, (0 : Int), ())) fun y21 => out1 y21
      (fun z22 =>
        g ((z22.1.1, z22.1.2.1, z22.1.2.2.1, z22.1.2.2.2.1, z22.1.2.2.2.2.1, z22.1.2.2.2.2.2.1, z22.1.2.2.2.2.2.2.1, (), z22.1.2.2.2.2.2.2.2.2), x.2.1, x.2.2.1, IntKind.i64.wrap (x.2.2.2.1 + (1 : Int)), ())))
    (some (.inl ((x.1.1, x.1.2.1, x.1.2.2.1, x.1.2.2.2.1, x.1.2.2.2.2.1, x.1.2.2.2.2.2.1, x.1.2.2.2.2.2.2.1, (), x.1.2.2.2.2.2.2.2.2), ())))
noncomputable def k14l3 : LCtr := ⟨[0, 63, 64, 65], (.cons (.ptr q5) (.cons (.val (.lst t_api_Sig)) (.cons (.val (.int .i64)) (.cons (.val (.int .i64)) .nil)))), [some 0], [0], [⟨(.exit 2), [0], (.cons (.ptr q5) .nil), [some 0]⟩], fun _ => [], lim valid_checker_types_p0_l24_step⟩
theorem k14s : LsOK Tryz.prog Tryz.f95.ntmps (codeOf Tryz.f95) [(24, k14l3), (1179755, k14l2), (6, k14l1)] := loop_E 24 k14l3 k14 (join_E 1179755 k14l2 k14 (loop_E 6 k14l1 k14 trivial (by kernel_rfl) rfl (fun g x => by kernel_rfl)) (by kernel_rfl) (fun x => by kernel_rfl)) (by kernel_rfl) rfl (fun g x => by kernel_rfl)
noncomputable def valid_checker_types_p0 (x : T10) : Option T4 :=
  Option.bind (valid_some ((x.1.2.2.2.1.length : Int), ())) fun y1 =>
  Option.bind (valid_checker_wrong_p0 ((x.1.1, x.1.2.1, x.1.2.2.1, x.1.2.2.2.1, x.1.2.2.2.2.1, x.1.2.2.2.2.2.1, x.1.2.2.2.2.2.2.1, (), x.1.2.2.2.2.2.2.2.2), y1.1, (2 : Int), (0 : Int), (0 : Int), ())) fun y2 => out1 y2
    (fun z3 =>
      Option.bind (lim valid_checker_types_p0_l6_step ((z3.1.1, z3.1.2.1, z3.1.2.2.1, z3.1.2.2.2.1, z3.1.2.2.2.2.1, z3.1.2.2.2.2.2.1, z3.1.2.2.2.2.2.2.1, (), z3.1.2.2.2.2.2.2.2.2), (x.1.1, x.1.2.1, x.1.2.2.1, x.1.2.2.2.1, x.1.2.2.2.2.1, x.1.2.2.2.2.2.1, x.1.2.2.2.2.2.2.1, ()), x.1.2.2.2.1, (x.1.2.2.2.1.length : Int), (0 : Int), ())) fun y7 => out1 y7
        (fun z8 =>
          Option.bind (row_Check ((z8.2.1.2.2.2.2.1, ()), z8.2.1.1, ())) fun y9 =>
          Option.bind (valid_checker_wrong_p0 ((z8.1.1, z8.1.2.1, z8.1.2.2.1, z8.1.2.2.2.1, z8.1.2.2.2.2.1, z8.1.2.2.2.2.2.1, z8.1.2.2.2.2.2.2.1, (), z8.1.2.2.2.2.2.2.2.2), y9.1, (3 : Int), (0 : Int), (0 : Int), ())) fun y10 => out1 y10
            (fun z11 =>
              let v1 := decide ((z8.2.1.2.2.2.1.length : Int) > (0 : Int))
              ck ((inB (0 : Int) (z8.2.1.2.2.2.1.length)) || !v1) <|
              cond (v1)
                (Option.bind (row_Shape (rdL t_api_Type z8.2.1.2.2.2.1 (0 : Int), (z8.2.1.2.2.2.2.1, ()), ())) fun y12 =>
                Option.bind (valid_checker_types_p0_j107_v ((z11.1.1, z11.1.2.1, z11.1.2.2.1, z11.1.2.2.2.1, z11.1.2.2.2.2.1, z11.1.2.2.2.2.2.1, z11.1.2.2.2.2.2.2.1, (), z11.1.2.2.2.2.2.2.2.2), !y12.1, ())) fun y15 => out1 y15
                  (fun z16 =>
                    Option.bind (valid_many ((z8.2.1.2.2.2.2.2.1.length : Int), ())) fun y17 =>
                    Option.bind (valid_checker_wrong_p0 ((z16.1.1, z16.1.2.1, z16.1.2.2.1, z16.1.2.2.2.1, z16.1.2.2.2.2.1, z16.1.2.2.2.2.2.1, z16.1.2.2.2.2.2.2.1, (), z16.1.2.2.2.2.2.2.2.2), y17.1, (4 : Int), (0 : Int), (0 : Int), ())) fun y18 => out1 y18
                      (fun z19 =>
                        Option.bind (lim valid_checker_types_p0_l24_step ((z19.1.1, z19.1.2.1, z19.1.2.2.1, z19.1.2.2.2.1, z19.1.2.2.2.2.1, z19.1.2.2.2.2.2.1, z19.1.2.2.2.2.2.2.1, (), z19.1.2.2.2.2.2.2.2.2), z8.2.1.2.2.2.2.2.1, (z8.2.1.2.2.2.2.2.1.length : Int), (0 : Int), ())) fun y23 => out1 y23
                          (fun z24 =>
                            some (.inl ((z24.1.1, z24.1.2.1, z24.1.2.2.1, z24.1.2.2.2.1, z24.1.2.2.2.2.1, z24.1.2.2.2.2.2.1, z24.1.2.2.2.2.2.2.1, (), z24.1.2.2.2.2.2.2.2.2), ()))))))
                (Option.bind (valid_checker_types_p0_j107_v ((z11.1.1, z11.1.2.1, z11.1.2.2.1, z11.1.2.2.2.1, z11.1.2.2.2.2.1, z11.1.2.2.2.2.2.1, z11.1.2.2.2.2.2.2.1, (), z11.1.2.2.2.2.2.2.2.2), false, ())) fun y25 => out1 y25
                  (fun z26 =>
                    Option.bind (valid_many ((z8.2.1.2.2.2.2.2.1.length : Int), ())) fun y27 =>
                    Option.bind (valid_checker_wrong_p0 ((z26.1.1, z26.1.2.1, z26.1.2.2.1, z26.1.2.2.2.1, z26.1.2.2.2.2.1, z26.1.2.2.2.2.2.1, z26.1.2.2.2.2.2.2.1, (), z26.1.2.2.2.2.2.2.2.2), y27.1, (4 : Int), (0 : Int), (0 : Int), ())) fun y28 => out1 y28
                      (fun z29 =>
                        Option.bind (lim valid_checker_types_p0_l24_step ((z29.1.1, z29.1.2.1, z29.1.2.2.1, z29.1.2.2.2.1, z29.1.2.2.2.2.1, z29.1.2.2.2.2.2.1, z29.1.2.2.2.2.2.2.1, (), z29.1.2.2.2.2.2.2.2.2), z8.2.1.2.2.2.2.2.1, (z8.2.1.2.2.2.2.2.1.length : Int), (0 : Int), ())) fun y30 => out1 y30
                          (fun z31 =>
                            some (.inl ((z31.1.1, z31.1.2.1, z31.1.2.2.1, z31.1.2.2.2.1, z31.1.2.2.2.2.1, z31.1.2.2.2.2.2.1, z31.1.2.2.2.2.2.2.1, (), z31.1.2.2.2.2.2.2.2.2), ())))))))))
noncomputable def k14L : LCtr := ⟨[0], (.cons (.ptr q5) .nil), [], [], [⟨.normal, [0], (.cons (.ptr q5) .nil), [some 0]⟩], fun _ => [], valid_checker_types_p0⟩
noncomputable def valid_checker_types_p0_c : PI := mkPI Tryz.f95 k14L
theorem valid_checker_types_p0_ok : PIOK Tryz.prog 95 valid_checker_types_p0_c := proc_E k14 Tryz.func95 k14s (by kernel_rfl) (fun x => by kernel_rfl)
/-! ### easement/stmt.of: function 194 -/
noncomputable def stmt_of_j23_v (x : V_api_Slot) : Option ((Bool × Unit) ⊕ Empty) :=
  cond (x.2.1)
    (some (.inl x.2))
    (some (.inl (x.1 == (3 : Int), ())))
noncomputable def k15l1 : LCtr := ⟨[4, 11], (.cons (.val (.int .i64)) (.cons (.val .bool) .nil)), [], [2, 4], [⟨.normal, [11], (.cons (.val .bool) .nil), []⟩], fun _ => [], stmt_of_j23_v⟩
theorem k15s : LsOK Tryz.prog Tryz.f194.ntmps (codeOf Tryz.f194) [(60129542167, k15l1)] := join_E 60129542167 k15l1 k0 trivial (by kernel_rfl) (fun x => by kernel_rfl)
noncomputable def stmt_of (x : (Int × Unit)) : Option (V_stmt_fields × Bool × Unit) :=
  cond (x.1 == (0 : Int))
    (some ((false, false, false, ()), true, ()))
    (cond (x.1 == (1 : Int))
      (some ((true, true, false, ()), true, ()))
      (Option.bind (stmt_of_j23_v (x.1, x.1 == (2 : Int), ())) fun y1 => out1 y1
        (fun z2 =>
          cond (z2.1)
            (some ((true, true, true, ()), true, ()))
            (cond (x.1 == (4 : Int))
              (some ((false, true, false, ()), true, ()))
              (cond (x.1 == (5 : Int))
                (some ((true, false, false, ()), true, ()))
                (some ((false, false, false, ()), false, ())))))))
noncomputable def stmt_of_c : Ctr := ⟨(.cons (.int .i64) .nil), (.cons t_stmt_fields (.cons .bool .nil)), stmt_of, none⟩
theorem stmt_of_ok : CtrOK Tryz.prog 194 stmt_of_c := fun_E k0 Tryz.func194 k15s (by kernel_rfl) (fun x => by kernel_rfl)
/-! ### easement/stmt.form: function 158 -/
noncomputable def k16 : FE Tryz.prog := ⟨[(194, stmt_of_c)], [], [], [], ⟨stmt_of_ok, trivial⟩, trivial, trivial⟩
noncomputable def stmt_form_j35_v (x : (V_api_Prov × V_api_Prov × Bool × Unit)) : Option ((V_api_Prov × V_api_Prov × Unit) ⊕ Empty) :=
  cond (x.2.2.1)
    (some (.inl (x.1, (x.2.1.1, x.1.2.1, x.2.1.2.2), ())))
    (some (.inl (x.1, x.2.1, ())))
noncomputable def k16l1 : LCtr := ⟨[1, 6, 17], (.cons (.ptr q18) (.cons (.ptr q18) (.cons (.val .bool) .nil))), [], [1, 2, 4, 5, 6], [⟨.normal, [1, 6], (.cons (.ptr q18) (.cons (.ptr q18) .nil)), [some 0, some 1]⟩], fun _ => [], stmt_form_j35_v⟩
noncomputable def stmt_form_j45_v (x : (V_api_Prov × V_api_Prov × Bool × Unit)) : Option ((V_api_Prov × V_api_Prov × Unit) ⊕ Empty) :=
  cond (x.2.2.1)
    (some (.inl (x.1, (x.2.1.1, x.2.1.2.1, x.1.2.2.1, x.2.1.2.2.2), ())))
    (some (.inl (x.1, x.2.1, ())))
noncomputable def k16l2 : LCtr := ⟨[1, 6, 22], (.cons (.ptr q18) (.cons (.ptr q18) (.cons (.val .bool) .nil))), [], [1, 2, 4, 5, 6], [⟨.normal, [1, 6], (.cons (.ptr q18) (.cons (.ptr q18) .nil)), [some 0, some 1]⟩], fun _ => [], stmt_form_j45_v⟩
noncomputable def stmt_form_j55_v (x : (V_api_Prov × V_api_Prov × Bool × Unit)) : Option ((V_api_Prov × V_api_Prov × Unit) ⊕ Empty) :=
  cond (x.2.2.1)
    (some (.inl (x.1, (x.2.1.1, x.2.1.2.1, x.2.1.2.2.1, x.1.2.2.2), ())))
    (some (.inl (x.1, x.2.1, ())))
noncomputable def k16l3 : LCtr := ⟨[1, 6, 27], (.cons (.ptr q18) (.cons (.ptr q18) (.cons (.val .bool) .nil))), [], [1, 2, 4, 5, 6], [⟨.normal, [1, 6], (.cons (.ptr q18) (.cons (.ptr q18) .nil)), [some 0, some 1]⟩], fun _ => [], stmt_form_j55_v⟩
theorem k16s : LsOK Tryz.prog Tryz.f158.ntmps (codeOf Tryz.f158) [(1048631, k16l3), (786477, k16l2), (524323, k16l1)] := join_E 1048631 k16l3 k16 (join_E 786477 k16l2 k16 (join_E 524323 k16l1 k16 trivial (by kernel_rfl) (fun x => by kernel_rfl)) (by kernel_rfl) (fun x => by kernel_rfl)) (by kernel_rfl) (fun x => by kernel_rfl)
noncomputable def stmt_form (x : (V_api_Prov × Unit)) : Option (V_stmt_fields × Bool × Unit) :=
  Option.bind (stmt_of (x.1.1, ())) fun y1 =>
  Option.bind (stmt_form_j35_v (x.1, (x.1.1, (0 : Int), (0 : Int), (0 : Int), false, ()), y1.1.1, ())) fun y2 => out1 y2
    (fun z3 =>
      Option.bind (stmt_form_j45_v (z3.1, z3.2.1, y1.1.2.1, ())) fun y4 => out1 y4
        (fun z5 =>
          Option.bind (stmt_form_j55_v (z5.1, z5.2.1, y1.1.2.2)) fun y6 => out1 y6
            (fun z7 =>
              some (y1.1, cond y1.2.1 ((z7.2.1.1 == z7.1.1) && ((z7.2.1.2.1 == z7.1.2.1) && ((z7.2.1.2.2.1 == z7.1.2.2.1) && ((z7.2.1.2.2.2.1 == z7.1.2.2.2.1) && ((z7.2.1.2.2.2.2.1 == z7.1.2.2.2.2.1) && true))))) false, ()))))
noncomputable def stmt_form_c : Ctr := ⟨(.cons t_api_Prov .nil), (.cons t_stmt_fields (.cons .bool .nil)), stmt_form, none⟩
theorem stmt_form_ok : CtrOK Tryz.prog 158 stmt_form_c := fun_E k16 Tryz.func158 k16s (by kernel_rfl) (fun x => by kernel_rfl)
/-! ### (*easement/relate.maker).put: function 218, at objects -/
noncomputable def relate_maker_put_p0 (x : (V_relate_maker × Int × Int × Int × Int × Unit)) : Option ((V_relate_maker × Unit) ⊕ Empty) :=
  let v1 := x.1.1 ++ [(x.2.1, x.2.2.1, x.2.2.2.1, x.2.2.2.2.1, false, ())]
  ck (roomB v1.length 46) <|
  some (.inl ((v1, ()), ()))
noncomputable def k17L : LCtr := ⟨[0, 1, 2, 3, 4], (.cons (.ptr (.cons (.own t_api_Prov) .nil)) (.cons (.val (.int .i64)) (.cons (.val (.int .i64)) (.cons (.val (.int .i64)) (.cons (.val (.int .i64)) .nil))))), [], [], [⟨.normal, [0], (.cons (.ptr (.cons (.own t_api_Prov) .nil)) .nil), [some 0, none]⟩], fun _ => [], relate_maker_put_p0⟩
noncomputable def relate_maker_put_p0_c : PI := mkPI Tryz.f218 k17L
theorem relate_maker_put_p0_ok : PIOK Tryz.prog 218 relate_maker_put_p0_c := proc_E (ls := []) k0 Tryz.func218 trivial (by kernel_rfl) (fun x => by kernel_rfl)
/-! ### (*easement/relate.maker).slots: function 216, at objects -/
noncomputable def k18 : FE Tryz.prog := ⟨[], [(218, [relate_maker_put_p0_c])], [], [], trivial, ⟨⟨relate_maker_put_p0_ok, trivial⟩, trivial⟩, trivial⟩
noncomputable def relate_maker_slots_p0_j73_v (x : (V_relate_maker × V_api_Slot × (List V_api_Slot) × Int × Int × Int × Bool × Unit)) : Option ((V_relate_maker × V_api_Slot × Unit) ⊕ Empty) :=
  cond (x.2.2.2.2.2.2.1)
    (ck (inB x.2.2.2.2.2.1 (x.2.2.1.length)) <|
    let v1 := x.1.1 ++ [((rdL t_api_Slot x.2.2.1 x.2.2.2.2.2.1).1, x.2.1.1, x.2.2.2.1, IntKind.i64.wrap (x.2.2.2.2.1 + x.2.2.2.2.2.1), true, ())]
    ck (roomB v1.length 46) <|
    some (.inl ((v1, ()), x.2.1, ())))
    (some (.inl (x.1, x.2.1, ())))
noncomputable def k18l1 : LCtr := ⟨[0, 11, 2, 3, 4, 10, 36], (.cons (.ptr (.cons (.own t_api_Prov) .nil)) (.cons (.ptr (.cons (.val (.int .i64)) (.cons (.val .bool) .nil))) (.cons (.val (.lst t_api_Slot)) (.cons (.val (.int .i64)) (.cons (.val (.int .i64)) (.cons (.val (.int .i64)) (.cons (.val .bool) .nil))))))), [], [0, 2, 3, 4, 12, 13, 14], [⟨.normal, [0, 11], (.cons (.ptr (.cons (.own t_api_Prov) .nil)) (.cons (.ptr (.cons (.val (.int .i64)) (.cons (.val .bool) .nil))) .nil)), [some 0, none, some 2]⟩], fun _ => [], relate_maker_slots_p0_j73_v⟩
noncomputable def relate_maker_slots_p0_l2_step (g : T18 → Option ((V_relate_maker × Unit) ⊕ Empty)) (x : T18) : Option ((V_relate_maker × Unit) ⊕ Empty) :=
  cond (decide (x.2.2.2.2.2.2.1 < x.2.2.2.2.2.1))
    (ck (inB x.2.2.2.2.2.2.1 (x.2.2.2.2.1.length)) <|
    ck (inB x.2.2.2.2.2.2.1 (x.2.1.length)) <|
    let v1 := rdL t_api_Slot x.2.2.2.2.1 x.2.2.2.2.2.2.1
    Option.bind (relate_maker_put_p0 (x.1, v1.1, (rdL t_api_Slot x.2.1 x.2.2.2.2.2.2.1).1, x.2.2.1, IntKind.i64.wrap (x.2.2.2.1 + x.2.2.2.2.2.2.1), ())) fun y1 => out1 y1
      (fun z2 =>
        ck (inB x.2.2.2.2.2.2.1 (x.2.1.length)) <|
        Option.bind (relate_maker_slots_p0_j73_v (z2.1, v1, x.2.1, x.2.2.1, x.2.2.2.1, x.2.2.2.2.2.2.1, (rdL t_api_Slot x.2.1 x.2.2.2.2.2.2.1).2)) fun y3 => out1 y3
          (fun z4 =>
            g (z4.1, x.2.1, x.2.2.1, x.2.2.2.1, x.2.2.2.2.1, x.2.2.2.2.2.1, IntKind.i64.wrap (x.2.2.2.2.2.2.1 + (1 : Int)), ()))))
    (some (.inl (x.1, ())))
noncomputable def k18l2 : LCtr := ⟨[0, 2, 3, 4, 12, 13, 14], (.cons (.ptr (.cons (.own t_api_Prov) .nil)) (.cons (.val (.lst t_api_Slot)) (.cons (.val (.int .i64)) (.cons (.val (.int .i64)) (.cons (.val (.lst t_api_Slot)) (.cons (.val (.int .i64)) (.cons (.val (.int .i64)) .nil))))))), [some 0, none], [0, 1, 2, 3, 4], [⟨(.exit 0), [0], (.cons (.ptr (.cons (.own t_api_Prov) .nil)) .nil), [some 0, none]⟩], fun _ => [], lim relate_maker_slots_p0_l2_step⟩
theorem k18s : LsOK Tryz.prog Tryz.f216.ntmps (codeOf Tryz.f216) [(2, k18l2), (655433, k18l1)] := loop_E 2 k18l2 k18 (join_E 655433 k18l1 k18 trivial (by kernel_rfl) (fun x => by kernel_rfl)) (by kernel_rfl) rfl (fun g x => by kernel_rfl)
noncomputable def relate_maker_slots_p0 (x : (V_relate_maker × (List V_api_Slot) × (List V_api_Slot) × Int × Int × Unit)) : Option ((V_relate_maker × Unit) ⊕ Empty) :=
  Option.bind (lim relate_maker_slots_p0_l2_step (x.1, x.2.2.1, x.2.2.2.1, x.2.2.2.2.1, x.2.1, (x.2.1.length : Int), (0 : Int), ())) fun y5 => out1 y5
    (fun z6 =>
      some (.inl z6))
noncomputable def k18L : LCtr := ⟨[0, 1, 2, 3, 4], (.cons (.ptr (.cons (.own t_api_Prov) .nil)) (.cons (.val (.lst t_api_Slot)) (.cons (.val (.lst t_api_Slot)) (.cons (.val (.int .i64)) (.cons (.val (.int .i64)) .nil))))), [], [], [⟨.normal, [0], (.cons (.ptr (.cons (.own t_api_Prov) .nil)) .nil), [some 0, none]⟩], fun _ => [], relate_maker_slots_p0⟩
noncomputable def relate_maker_slots_p0_c : PI := mkPI Tryz.f216 k18L
theorem relate_maker_slots_p0_ok : PIOK Tryz.prog 216 relate_maker_slots_p0_c := proc_E k18 Tryz.func216 k18s (by kernel_rfl) (fun x => by kernel_rfl)
/-! ### easement/relate.Flow: function 206 -/
noncomputable def k19 : FE Tryz.prog := ⟨[(141, row_Shape_c)], [(216, [relate_maker_slots_p0_c])], [], [], ⟨row_Shape_ok, trivial⟩, ⟨⟨relate_maker_slots_p0_ok, trivial⟩, trivial⟩, trivial⟩
noncomputable def relate_Flow (x : (V_api_Type × V_api_Type × Int × Int × Unit)) : Option ((List V_api_Prov) × Int × Unit) :=
  Option.bind (row_Shape (x.1, x.2.1, ())) fun y1 =>
  cond (!y1.1)
    (some (([] : List V_api_Prov), (8 : Int), ()))
    (Option.bind (relate_maker_slots_p0 ((([] : List V_api_Prov), ()), x.1.1, x.2.1.1, x.2.2)) fun y2 => out1 y2
      (fun z3 =>
        some (z3.1.1, (0 : Int), ())))
noncomputable def relate_Flow_c : Ctr := ⟨(.cons t_api_Type (.cons t_api_Type (.cons (.int .i64) (.cons (.int .i64) .nil)))), (.cons (.lst t_api_Prov) (.cons (.int .i64) .nil)), relate_Flow, none⟩
theorem relate_Flow_ok : CtrOK Tryz.prog 206 relate_Flow_c := fun_E (ls := []) k19 Tryz.func206 trivial (by kernel_rfl) (fun x => by kernel_rfl)
/-! ### easement/row.Ref: function 217 -/
noncomputable def row_Ref_l6_step (g : (V_api_Type × Bool × (List V_api_Slot) × Int × Int × Unit) → Option ((V_api_Type × Unit) ⊕ Empty)) (x : (V_api_Type × Bool × (List V_api_Slot) × Int × Int × Unit)) : Option ((V_api_Type × Unit) ⊕ Empty) :=
  cond (decide (x.2.2.2.2.1 < x.2.2.2.1))
    (ck (inB x.2.2.2.2.1 (x.2.2.1.length)) <|
    let v1 := rdL t_api_Slot x.2.2.1 x.2.2.2.2.1
    let v2 := x.1.1 ++ [(v1.1, cond v1.2.1 true x.2.1, ())]
    ck (roomB v2.length 19) <|
    g ((v2, ()), x.2.1, x.2.2.1, x.2.2.2.1, IntKind.i64.wrap (x.2.2.2.2.1 + (1 : Int)), ()))
    (some (.inl (x.1, ())))
noncomputable def k20l1 : LCtr := ⟨[7, 2, 15, 16, 17], (.cons (.ptr (.cons (.own t_api_Slot) .nil)) (.cons (.val .bool) (.cons (.val (.lst t_api_Slot)) (.cons (.val (.int .i64)) (.cons (.val (.int .i64)) .nil))))), [some 0, none], [6, 7], [⟨(.exit 0), [7], (.cons (.ptr (.cons (.own t_api_Slot) .nil)) .nil), [some 0, none]⟩], fun _ => [], lim row_Ref_l6_step⟩
theorem k20s : LsOK Tryz.prog Tryz.f217.ntmps (codeOf Tryz.f217) [(6, k20l1)] := loop_E 6 k20l1 k0 trivial (by kernel_rfl) rfl (fun g x => by kernel_rfl)
noncomputable def row_Ref (x : (V_api_Type × Int × Bool × Unit)) : Option (V_api_Type × Unit) :=
  Option.bind (lim row_Ref_l6_step (([(x.2.1, false, ())], ()), x.2.2.1, x.1.1, (x.1.1.length : Int), (0 : Int), ())) fun y1 => out1 y1
    (fun z2 =>
      some z2)
noncomputable def row_Ref_c : Ctr := ⟨(.cons t_api_Type (.cons (.int .i64) (.cons .bool .nil))), (.cons t_api_Type .nil), row_Ref, none⟩
theorem row_Ref_ok : CtrOK Tryz.prog 217 row_Ref_c := fun_E k0 Tryz.func217 k20s (by kernel_rfl) (fun x => by kernel_rfl)
/-! ### easement/relate.Loan: function 207 -/
noncomputable def k21 : FE Tryz.prog := ⟨[(217, row_Ref_c), (141, row_Shape_c)], [(218, [relate_maker_put_p0_c]), (216, [relate_maker_slots_p0_c])], [], [], ⟨row_Ref_ok, row_Shape_ok, trivial⟩, ⟨⟨relate_maker_put_p0_ok, trivial⟩, ⟨relate_maker_slots_p0_ok, trivial⟩, trivial⟩, trivial⟩
noncomputable def relate_Loan (x : (V_api_Type × V_api_Type × Int × Bool × Unit)) : Option ((List V_api_Prov) × Int × Unit) :=
  Option.bind (row_Ref (x.1, x.2.2)) fun y1 =>
  Option.bind (row_Shape (y1.1, x.2.1, ())) fun y2 =>
  cond (!y2.1)
    (some (([] : List V_api_Prov), (8 : Int), ()))
    (ck (inB (0 : Int) (x.2.1.1.length)) <|
    Option.bind (relate_maker_put_p0 ((([] : List V_api_Prov), ()), x.2.2.1, (rdL t_api_Slot x.2.1.1 (0 : Int)).1, (2 : Int), (0 : Int), ())) fun y3 => out1 y3
      (fun z4 =>
        ck (decide (0 ≤ (1 : Int)) && decide ((1 : Int) ≤ x.2.1.1.length)) <|
        Option.bind (relate_maker_slots_p0 (z4.1, x.1.1, x.2.1.1.drop (1 : Int).toNat, (1 : Int), (1 : Int), ())) fun y5 => out1 y5
          (fun z6 =>
            some (z6.1.1, (0 : Int), ()))))
noncomputable def relate_Loan_c : Ctr := ⟨(.cons t_api_Type (.cons t_api_Type (.cons (.int .i64) (.cons .bool .nil)))), (.cons (.lst t_api_Prov) (.cons (.int .i64) .nil)), relate_Loan, none⟩
theorem relate_Loan_ok : CtrOK Tryz.prog 207 relate_Loan_c := fun_E (ls := []) k21 Tryz.func207 trivial (by kernel_rfl) (fun x => by kernel_rfl)
/-! ### slices.Clone[[]easement/api.Slot,easement/api.Slot]: function 221 -/
noncomputable def slices_Clone_80 (x : ((List V_api_Slot) × Unit)) : Option ((List V_api_Slot) × Unit) :=
  cond (x.1.isEmpty) (agree
    (some (([] : List V_api_Slot), ()))
    (let v1 := ([] : List V_api_Slot) ++ x.1
    ck (roomB v1.length 19) <|
    some (v1, ())))
    (let v1 := ([] : List V_api_Slot) ++ x.1
    ck (roomB v1.length 19) <|
    some (v1, ()))
noncomputable def slices_Clone_80_c : Ctr := ⟨(.cons (.lst t_api_Slot) .nil), (.cons (.lst t_api_Slot) .nil), slices_Clone_80, none⟩
theorem slices_Clone_80_ok : CtrOK Tryz.prog 221 slices_Clone_80_c := fun_E (ls := []) k0 Tryz.func221 trivial (by kernel_rfl) (fun x => by kernel_rfl)
/-! ### easement/row.Deref: function 219 -/
noncomputable def k23 : FE Tryz.prog := ⟨[(221, slices_Clone_80_c)], [], [], [], ⟨slices_Clone_80_ok, trivial⟩, trivial, trivial⟩
noncomputable def row_Deref (x : (V_api_Type × Unit)) : Option (V_api_Type × Int × Bool × Unit) :=
  let v1 := (x.1.1.length : Int) == (0 : Int)
  ck ((inB (0 : Int) (x.1.1.length)) || !(!v1)) <|
  cond (cond v1 true (rdL t_api_Slot x.1.1 (0 : Int)).2.1)
    (some ((([] : List V_api_Slot), ()), (0 : Int), false, ()))
    (ck (decide (0 ≤ (1 : Int)) && decide ((1 : Int) ≤ x.1.1.length)) <|
    Option.bind (slices_Clone_80 (x.1.1.drop (1 : Int).toNat, ())) fun y1 =>
    ck (inB (0 : Int) (x.1.1.length)) <|
    some (y1, (rdL t_api_Slot x.1.1 (0 : Int)).1, true, ()))
noncomputable def row_Deref_c : Ctr := ⟨(.cons t_api_Type .nil), (.cons t_api_Type (.cons (.int .i64) (.cons .bool .nil))), row_Deref, none⟩
theorem row_Deref_ok : CtrOK Tryz.prog 219 row_Deref_c := fun_E (ls := []) k23 Tryz.func219 trivial (by kernel_rfl) (fun x => by kernel_rfl)
/-! ### easement/relate.Again: function 208 -/
noncomputable def k24 : FE Tryz.prog := ⟨[(219, row_Deref_c), (141, row_Shape_c)], [(218, [relate_maker_put_p0_c]), (216, [relate_maker_slots_p0_c])], [], [], ⟨row_Deref_ok, row_Shape_ok, trivial⟩, ⟨⟨relate_maker_put_p0_ok, trivial⟩, ⟨relate_maker_slots_p0_ok, trivial⟩, trivial⟩, trivial⟩
noncomputable def relate_Again_l12_step (g : (Bool × (List V_api_Slot) × Int × Int × Unit) → Option (((List V_api_Prov) × Int × Unit) ⊕ (Unit ⊕ Empty))) (x : (Bool × (List V_api_Slot) × Int × Int × Unit)) : Option (((List V_api_Prov) × Int × Unit) ⊕ (Unit ⊕ Empty)) :=
  cond (decide (x.2.2.2.1 < x.2.2.1))
    (ck (inB x.2.2.2.1 (x.2.1.length)) <|
    cond (cond x.1 (!(rdL t_api_Slot x.2.1 x.2.2.2.1).2.1) false)
      (some (.inl (([] : List V_api_Prov), (8 : Int), ())))
      (g (x.1, x.2.1, x.2.2.1, IntKind.i64.wrap (x.2.2.2.1 + (1 : Int)), ())))
    (some (.inr (.inl ())))
noncomputable def k24l1 : LCtr := ⟨[3, 44, 45, 46], (.cons (.val .bool) (.cons (.val (.lst t_api_Slot)) (.cons (.val (.int .i64)) (.cons (.val (.int .i64)) .nil)))), [], [2, 5, 10, 11], [⟨.ret, [8, 9], (.cons (.own t_api_Prov) (.cons (.val (.int .i64)) .nil)), [none]⟩, ⟨(.exit 0), [], .nil, []⟩], fun _ => [], lim relate_Again_l12_step⟩
theorem k24s : LsOK Tryz.prog Tryz.f208.ntmps (codeOf Tryz.f208) [(12, k24l1)] := loop_E 12 k24l1 k24 trivial (by kernel_rfl) rfl (fun g x => by kernel_rfl)
noncomputable def relate_Again (x : (V_api_Type × V_api_Type × Int × Bool × Unit)) : Option ((List V_api_Prov) × Int × Unit) :=
  Option.bind (row_Deref (x.1, ())) fun y1 =>
  Option.bind (row_Deref (x.2.1, ())) fun y2 =>
  cond (!(cond (!y1.2.2.1) true (!y2.2.2.1)))
    (Option.bind (row_Shape (x.1, x.2.1, ())) fun y3 =>
    cond (!y3.1)
      (some (([] : List V_api_Prov), (8 : Int), ()))
      (Option.bind (lim relate_Again_l12_step (x.2.2.2.1, y1.1.1, (y1.1.1.length : Int), (0 : Int), ())) fun y4 => out2 y4
        (fun z5 =>
          some z5)
        (fun z6 =>
          Option.bind (relate_maker_put_p0 ((([] : List V_api_Prov), ()), y1.2.1, x.2.2.1, (3 : Int), (0 : Int), ())) fun y7 => out1 y7
            (fun z8 =>
              ck (inB (0 : Int) (x.2.1.1.length)) <|
              Option.bind (relate_maker_put_p0 (z8.1, x.2.2.1, (rdL t_api_Slot x.2.1.1 (0 : Int)).1, (2 : Int), (0 : Int), ())) fun y9 => out1 y9
                (fun z10 =>
                  ck (decide (0 ≤ (1 : Int)) && decide ((1 : Int) ≤ x.2.1.1.length)) <|
                  Option.bind (relate_maker_slots_p0 (z10.1, y1.1.1, x.2.1.1.drop (1 : Int).toNat, (1 : Int), (1 : Int), ())) fun y11 => out1 y11
                    (fun z12 =>
                      some (z12.1.1, (0 : Int), ())))))))
    (some (([] : List V_api_Prov), (8 : Int), ()))
noncomputable def relate_Again_c : Ctr := ⟨(.cons t_api_Type (.cons t_api_Type (.cons (.int .i64) (.cons .bool .nil)))), (.cons (.lst t_api_Prov) (.cons (.int .i64) .nil)), relate_Again, none⟩
theorem relate_Again_ok : CtrOK Tryz.prog 208 relate_Again_c := fun_E k24 Tryz.func208 k24s (by kernel_rfl) (fun x => by kernel_rfl)
/-! ### easement/stmt.needs: function 177 -/
noncomputable def k25 : FE Tryz.prog := ⟨[(206, relate_Flow_c), (207, relate_Loan_c), (208, relate_Again_c)], [], [], [], ⟨relate_Flow_ok, relate_Loan_ok, relate_Again_ok, trivial⟩, trivial, trivial⟩
noncomputable def stmt_needs (x : (V_api_Prov × (List V_api_Type) × Unit)) : Option ((List V_api_Prov) × Int × Unit) :=
  cond (x.1.1 == (1 : Int))
    (ck (inB x.1.2.2.1 (x.2.1.length)) <|
    ck (inB x.1.2.1 (x.2.1.length)) <|
    Option.bind (relate_Flow (rdL t_api_Type x.2.1 x.1.2.2.1, rdL t_api_Type x.2.1 x.1.2.1, (1 : Int), (0 : Int), ())) fun y1 =>
    some y1)
    (cond (x.1.1 == (2 : Int))
      (ck (inB x.1.2.2.1 (x.2.1.length)) <|
      ck (inB x.1.2.1 (x.2.1.length)) <|
      Option.bind (relate_Loan (rdL t_api_Type x.2.1 x.1.2.2.1, rdL t_api_Type x.2.1 x.1.2.1, x.1.2.2.2)) fun y2 =>
      some y2)
      (cond (x.1.1 == (3 : Int))
        (ck (inB x.1.2.2.1 (x.2.1.length)) <|
        ck (inB x.1.2.1 (x.2.1.length)) <|
        Option.bind (relate_Again (rdL t_api_Type x.2.1 x.1.2.2.1, rdL t_api_Type x.2.1 x.1.2.1, x.1.2.2.2)) fun y3 =>
        some y3)
        (some (([] : List V_api_Prov), (0 : Int), ()))))
noncomputable def stmt_needs_c : Ctr := ⟨(.cons t_api_Prov (.cons (.lst t_api_Type) .nil)), (.cons (.lst t_api_Prov) (.cons (.int .i64) .nil)), stmt_needs, none⟩
theorem stmt_needs_ok : CtrOK Tryz.prog 177 stmt_needs_c := fun_E (ls := []) k25 Tryz.func177 trivial (by kernel_rfl) (fun x => by kernel_rfl)
/-! ### easement/stmt.Check: function 143 -/
noncomputable def k26 : FE Tryz.prog := ⟨[(158, stmt_form_c), (177, stmt_needs_c)], [], [], [], ⟨stmt_form_ok, stmt_needs_ok, trivial⟩, trivial, trivial⟩
noncomputable def stmt_Check_j39x_v (x : (V_api_Prov × V_stmt_fields × Int × Bool × Unit)) : Option ((Bool × V_api_Prov × V_stmt_fields × Unit) ⊕ Empty) :=
  cond (x.2.2.2.1)
    (some (.inl (x.2.2.2.1, x.1, x.2.1, ())))
    (some (.inl (cond x.2.1.2.2.1 (cond (decide (x.1.2.2.2.1 < (0 : Int))) true (decide (x.1.2.2.2.1 ≥ x.2.2.1))) false, x.1, x.2.1, ())))
noncomputable def k26l1 : LCtr := ⟨[3, 7, 2, 19], (.cons (.ptr q18) (.cons (.ptr (.cons (.val .bool) (.cons (.val .bool) (.cons (.val .bool) .nil)))) (.cons (.val (.int .i64)) (.cons (.val .bool) .nil)))), [], [1, 3], [⟨.normal, [19, 3, 7], q27, [some 0, some 1]⟩], fun _ => [], stmt_Check_j39x_v⟩
noncomputable def stmt_Check_j39_v (x : (V_api_Prov × V_stmt_fields × (List V_api_Type) × Int × Bool × Unit)) : Option ((Bool × V_api_Prov × V_stmt_fields × Unit) ⊕ Empty) :=
  cond (x.2.2.2.2.1)
    (some (.inl (x.2.2.2.2.1, x.1, x.2.1, ())))
    (Option.bind (stmt_Check_j39x_v (x.1, x.2.1, x.2.2.2.1, cond x.2.1.2.1 (cond (decide (x.1.2.2.1 < (0 : Int))) true (decide (x.1.2.2.1 ≥ (x.2.2.1.length : Int)))) false, ())) fun y2 => out1 y2
      (fun z3 =>
        some (.inl z3)))
noncomputable def k26l2 : LCtr := ⟨[3, 7, 1, 2, 19], (.cons (.ptr q18) (.cons (.ptr (.cons (.val .bool) (.cons (.val .bool) (.cons (.val .bool) .nil)))) (.cons (.val (.lst t_api_Type)) (.cons (.val (.int .i64)) (.cons (.val .bool) .nil))))), [], [1, 3], [⟨.normal, [19, 3, 7], q27, [some 0, some 1]⟩], fun _ => [], stmt_Check_j39_v⟩
theorem k26s : LsOK Tryz.prog Tryz.f143.ntmps (codeOf Tryz.f143) [(42949672999, k26l2), (51539607591, k26l1)] := join_E 42949672999 k26l2 k26 (join_E 51539607591 k26l1 k26 trivial (by kernel_rfl) (fun x => by kernel_rfl)) (by kernel_rfl) (fun x => by kernel_rfl)
noncomputable def stmt_Check (x : (V_api_Prov × (List V_api_Type) × Int × Unit)) : Option (Int × Unit) :=
  Option.bind (stmt_form (x.1, ())) fun y1 =>
  cond (!y1.2.1)
    (some ((3 : Int), ()))
    (Option.bind (stmt_Check_j39_v (x.1, y1.1, x.2.1, x.2.2.1, cond y1.1.1 (cond (decide (x.1.2.1 < (0 : Int))) true (decide (x.1.2.1 ≥ (x.2.1.length : Int)))) false, ())) fun y4 => out1 y4
      (fun z5 =>
        cond (z5.1)
          (some ((7 : Int), ()))
          (Option.bind (stmt_needs (z5.2.1, x.2.1, ())) fun y6 =>
          some y6.2)))
noncomputable def stmt_Check_c : Ctr := ⟨(.cons t_api_Prov (.cons (.lst t_api_Type) (.cons (.int .i64) .nil))), (.cons (.int .i64) .nil), stmt_Check, none⟩
theorem stmt_Check_ok : CtrOK Tryz.prog 143 stmt_Check_c := fun_E k26 Tryz.func143 k26s (by kernel_rfl) (fun x => by kernel_rfl)
/-! ### easement/term.form: function 159 -/
noncomputable def term_form_j21_v (x : V_api_Slot) : Option ((Bool × Unit) ⊕ Empty) :=
  cond (x.2.1)
    (some (.inl x.2))
    (some (.inl (x.1 == (4 : Int), ())))
noncomputable def k27l1 : LCtr := ⟨[9, 10], (.cons (.val (.int .i64)) (.cons (.val .bool) .nil)), [], [1, 3, 4, 9], [⟨.normal, [10], (.cons (.val .bool) .nil), []⟩], fun _ => [], term_form_j21_v⟩
noncomputable def term_form_j27_v (x : (V_api_Term × Int × Bool × Unit)) : Option T21 :=
  cond (x.2.2.1)
    (some (.inl (maxI (1 : Int) (x.1.2.2.2.1.length : Int), x.1, ())))
    (cond (x.2.1 == (3 : Int))
      (some (.inl ((0 : Int), x.1, ())))
      (some (.inr (.inl ((3 : Int), x.1, ())))))
noncomputable def k27l2 : LCtr := ⟨[1, 9, 13], (.cons (.ptr q29) (.cons (.val (.int .i64)) (.cons (.val .bool) .nil))), [], [1], [⟨.normal, [4, 1], (.cons (.val (.int .i64)) (.cons (.ptr q29) .nil)), [some 0]⟩, ⟨.ret, [2, 1], (.cons (.val (.int .i64)) (.cons (.ptr q29) .nil)), [some 0]⟩], fun _ => [], term_form_j27_v⟩
noncomputable def term_form_j21x_v (x : (V_api_Term × Int × Int × Bool × Unit)) : Option T21 :=
  cond (x.2.2.2.1)
    (some (.inl (x.2.1, x.1, ())))
    (Option.bind (term_form_j27_v (x.1, x.2.2.1, x.2.2.1 == (2 : Int), ())) fun y3 => out2 y3
      (fun z4 =>
        some (.inl z4))
      (fun z5 =>
        some (.inr (.inl z5))))
noncomputable def k27l3 : LCtr := ⟨[1, 4, 9, 10], (.cons (.ptr q29) (.cons (.val (.int .i64)) (.cons (.val (.int .i64)) (.cons (.val .bool) .nil)))), [], [1, 3], [⟨.normal, [4, 1], (.cons (.val (.int .i64)) (.cons (.ptr q29) .nil)), [some 0]⟩, ⟨.ret, [2, 1], (.cons (.val (.int .i64)) (.cons (.ptr q29) .nil)), [some 0]⟩], fun _ => [], term_form_j21x_v⟩
noncomputable def term_form_j43x_v (x : (V_api_Term × Bool × Bool × Unit)) : Option ((Bool × V_api_Term × Unit) ⊕ Empty) :=
  cond (x.2.2.1)
    (some (.inl (x.2.2.1, x.1, ())))
    (some (.inl (cond (cond (!x.2.1) (x.1.1 != (2 : Int)) false) (decide ((x.1.2.2.2.2.1.length : Int) > (0 : Int))) false, x.1, ())))
noncomputable def k27l4 : LCtr := ⟨[1, 3, 21], (.cons (.ptr q29) (.cons (.val .bool) (.cons (.val .bool) .nil))), [], [1], [⟨.normal, [21, 1], (.cons (.val .bool) (.cons (.ptr q29) .nil)), [some 0]⟩], fun _ => [], term_form_j43x_v⟩
noncomputable def term_form_j43_v (x : (V_api_Term × Bool × Bool × Unit)) : Option ((Bool × V_api_Term × Unit) ⊕ Empty) :=
  cond (x.2.2.1)
    (some (.inl (x.2.2.1, x.1, ())))
    (Option.bind (term_form_j43x_v (x.1, x.2.1, cond (!x.2.1) (cond (cond (x.1.2.1 != (0 : Int)) true (x.1.2.2.1 != (0 : Int))) true (decide ((x.1.2.2.2.2.2.1.length : Int) > (0 : Int)))) false, ())) fun y8 => out1 y8
      (fun z9 =>
        some (.inl z9)))
noncomputable def k27l5 : LCtr := ⟨[1, 3, 21], (.cons (.ptr q29) (.cons (.val .bool) (.cons (.val .bool) .nil))), [], [1], [⟨.normal, [21, 1], (.cons (.val .bool) (.cons (.ptr q29) .nil)), [some 0]⟩], fun _ => [], term_form_j43_v⟩
theorem k27s : LsOK Tryz.prog Tryz.f159.ntmps (codeOf Tryz.f159) [(103079215147, k27l5), (111669149739, k27l4), (60129542165, k27l3), (77310459931, k27l2), (51539607573, k27l1)] := join_E 103079215147 k27l5 k0 (join_E 111669149739 k27l4 k0 (join_E 60129542165 k27l3 k0 (join_E 77310459931 k27l2 k0 (join_E 51539607573 k27l1 k0 trivial (by kernel_rfl) (fun x => by kernel_rfl)) (by kernel_rfl) (fun x => by kernel_rfl)) (by kernel_rfl) (fun x => by kernel_rfl)) (by kernel_rfl) (fun x => by kernel_rfl)) (by kernel_rfl) (fun x => by kernel_rfl)
noncomputable def term_form (x : (V_api_Term × Unit)) : Option (Int × Unit) :=
  Option.bind (term_form_j21_v (x.1.1, x.1.1 == (1 : Int), ())) fun y1 => out1 y1
    (fun z2 =>
      Option.bind (term_form_j21x_v (x.1, (1 : Int), x.1.1, z2)) fun y6 => out2 y6
        (fun z7 =>
          Option.bind (term_form_j43_v (z7.2.1, x.1.1 == (4 : Int), (z7.2.1.2.2.2.1.length : Int) != z7.1, ())) fun y10 => out1 y10
            (fun z11 =>
              cond (z11.1)
                (some ((3 : Int), ()))
                (cond (cond (cond (decide ((z11.2.1.2.2.2.1.length : Int) > (16 : Int))) true (decide ((z11.2.1.2.2.2.2.1.length : Int) > (16 : Int)))) true (decide ((z11.2.1.2.2.2.2.2.1.length : Int) > (16 : Int))))
                  (some ((6 : Int), ()))
                  (some ((0 : Int), ())))))
        (fun z12 =>
          some (z12.1, ())))
noncomputable def term_form_c : Ctr := ⟨(.cons t_api_Term .nil), (.cons (.int .i64) .nil), term_form, none⟩
theorem term_form_ok : CtrOK Tryz.prog 159 term_form_c := fun_E k0 Tryz.func159 k27s (by kernel_rfl) (fun x => by kernel_rfl)
/-! ### easement/term.beyond: function 178 -/
noncomputable def term_beyond (x : (Int × Unit)) : Option ((Option (Int × Unit)) × Unit) :=
  some (some x, ())
noncomputable def term_beyond_c : Ctr := ⟨(.cons (.int .i64) .nil), (.cons (.ptr (.cons (.int .i64) .nil)) .nil), term_beyond, some 209⟩
theorem term_beyond_ok : CtrOK Tryz.prog 178 term_beyond_c := fun_EC (ls := []) k0 Tryz.func178 trivial (by kernel_rfl) (fun x => by kernel_rfl)
/-! ### easement/term.beyond$1: function 209 -/
noncomputable def term_beyond_1 (x : (Int × (Option (Int × Unit)) × Unit)) : Option (Bool × Unit) :=
  ck ((x.2.1.isSome) || !(!(decide (x.1 < (0 : Int))))) <|
  some (cond (decide (x.1 < (0 : Int))) true (decide (x.1 ≥ (x.2.1.getD (Ty.dflt (.cons (.int .i64) .nil))).1)), ())
noncomputable def term_beyond_1_c : Ctr := ⟨(.cons (.int .i64) (.cons (.ptr (.cons (.int .i64) .nil)) .nil)), (.cons .bool .nil), term_beyond_1, none⟩
theorem term_beyond_1_ok : CtrOK Tryz.prog 209 term_beyond_1_c := fun_E (ls := []) k0 Tryz.func209 trivial (by kernel_rfl) (fun x => by kernel_rfl)
/-! ### slices.IndexFunc[[]int,int]: function 210, at objects -/
noncomputable def k30 : FE Tryz.prog := ⟨[(209, term_beyond_1_c)], [], [], [], ⟨term_beyond_1_ok, trivial⟩, trivial, trivial⟩
noncomputable def slices_IndexFunc_157_p0_l4_step (g : T22 → Option ((Int × Unit) ⊕ (Unit ⊕ Empty))) (x : T22) : Option ((Int × Unit) ⊕ (Unit ⊕ Empty)) :=
  cond (decide (x.2.2.2.1 < x.2.2.1))
    (ck (inB x.2.2.2.1 (x.1.length)) <|
    Option.bind (term_beyond_1 (rdL (.int .i64) x.1 x.2.2.2.1, x.2.1)) fun y1 =>
    cond (y1.1)
      (some (.inl x.2.2.2))
      (g (x.1, x.2.1, x.2.2.1, IntKind.i64.wrap (x.2.2.2.1 + (1 : Int)), ())))
    (some (.inr (.inl ())))
noncomputable def k30l1 : LCtr := ⟨[0, 1, 7, 8], (.cons (.val (.lst (.int .i64))) (.cons (.clo 209 (.cons (.val (.ptr (.cons (.int .i64) .nil))) .nil)) (.cons (.val (.int .i64)) (.cons (.val (.int .i64)) .nil)))), [], [0, 1], [⟨.ret, [4], (.cons (.val (.int .i64)) .nil), []⟩, ⟨(.exit 0), [], .nil, []⟩], fun _ => [], lim slices_IndexFunc_157_p0_l4_step⟩
theorem k30s : LsOK Tryz.prog Tryz.f210.ntmps (codeOf Tryz.f210) [(4, k30l1)] := loop_E 4 k30l1 k30 trivial (by kernel_rfl) rfl (fun g x => by kernel_rfl)
noncomputable def slices_IndexFunc_157_p0 (x : ((List Int) × ((Option (Int × Unit)) × Unit) × Unit)) : Option ((Int × Unit) ⊕ Empty) :=
  Option.bind (lim slices_IndexFunc_157_p0_l4_step (x.1, x.2.1, (x.1.length : Int), (0 : Int), ())) fun y2 => out2 y2
    (fun z3 =>
      some (.inl z3))
    (fun z4 =>
      some (.inl ((-1 : Int), ())))
noncomputable def k30L : LCtr := ⟨[0, 1], q33, [], [], [⟨.ret, [4], (.cons (.val (.int .i64)) .nil), []⟩], fun _ => [], slices_IndexFunc_157_p0⟩
noncomputable def slices_IndexFunc_157_p0_c : PI := mkPI Tryz.f210 k30L
theorem slices_IndexFunc_157_p0_ok : PIOK Tryz.prog 210 slices_IndexFunc_157_p0_c := proc_E k30 Tryz.func210 k30s (by kernel_rfl) (fun x => by kernel_rfl)
/-! ### slices.ContainsFunc[[]int,int]: function 179, at objects -/
noncomputable def k31 : FE Tryz.prog := ⟨[], [(210, [slices_IndexFunc_157_p0_c])], [], [], trivial, ⟨⟨slices_IndexFunc_157_p0_ok, trivial⟩, trivial⟩, trivial⟩
noncomputable def slices_ContainsFunc_128_p0 (x : ((List Int) × ((Option (Int × Unit)) × Unit) × Unit)) : Option ((Bool × Unit) ⊕ Empty) :=
  Option.bind (slices_IndexFunc_157_p0 x) fun y1 => out1 y1
    (fun z2 =>
      some (.inl (decide (z2.1 ≥ (0 : Int)), ())))
noncomputable def k31L : LCtr := ⟨[0, 1], q33, [], [], [⟨.ret, [4], (.cons (.val .bool) .nil), []⟩], fun _ => [], slices_ContainsFunc_128_p0⟩
noncomputable def slices_ContainsFunc_128_p0_c : PI := mkPI Tryz.f179 k31L
theorem slices_ContainsFunc_128_p0_ok : PIOK Tryz.prog 179 slices_ContainsFunc_128_p0_c := proc_E (ls := []) k31 Tryz.func179 trivial (by kernel_rfl) (fun x => by kernel_rfl)
/-! ### slices.Clone[[]easement/api.Slot,easement/api.Slot]: function 221, at objects -/
noncomputable def slices_Clone_80_p0 (x : V_api_Type) : Option (V_api_Type ⊕ Empty) :=
  cond (x.1.isEmpty) (agree
    (some (.inl (([] : List V_api_Slot), ())))
    (let v1 := ([] : List V_api_Slot) ++ x.1
    ck (roomB v1.length 19) <|
    some (.inl (v1, ()))))
    (let v1 := ([] : List V_api_Slot) ++ x.1
    ck (roomB v1.length 19) <|
    some (.inl (v1, ())))
noncomputable def k33L : LCtr := ⟨[0], (.cons (.val (.lst t_api_Slot)) .nil), [], [], [⟨.ret, [2], (.cons (.own t_api_Slot) .nil), [none]⟩], fun _ => [], slices_Clone_80_p0⟩
noncomputable def slices_Clone_80_p0_c : PI := mkPI Tryz.f221 k33L
theorem slices_Clone_80_p0_ok : PIOK Tryz.prog 221 slices_Clone_80_p0_c := proc_E (ls := []) k0 Tryz.func221 trivial (by kernel_rfl) (fun x => by kernel_rfl)
/-! ### easement/row.Clone: function 222, at objects -/
noncomputable def k34 : FE Tryz.prog := ⟨[], [(221, [slices_Clone_80_p0_c])], [], [], trivial, ⟨⟨slices_Clone_80_p0_ok, trivial⟩, trivial⟩, trivial⟩
noncomputable def row_Clone_p0 (x : (V_api_Type × Unit)) : Option ((V_api_Type × Unit) ⊕ Empty) :=
  Option.bind (slices_Clone_80_p0 x.1) fun y1 => out1 y1
    (fun z2 =>
      some (.inl (z2, ())))
noncomputable def k34L : LCtr := ⟨[0], (.cons (.val t_api_Type) .nil), [], [], [⟨.ret, [2], (.cons (.ptr (.cons (.own t_api_Slot) .nil)) .nil), [none, none]⟩], fun _ => [], row_Clone_p0⟩
noncomputable def row_Clone_p0_c : PI := mkPI Tryz.f222 k34L
theorem row_Clone_p0_ok : PIOK Tryz.prog 222 row_Clone_p0_c := proc_E (ls := []) k34 Tryz.func222 trivial (by kernel_rfl) (fun x => by kernel_rfl)
/-! ### easement/row.Subst: function 220 -/
noncomputable def k35 : FE Tryz.prog := ⟨[], [(222, [row_Clone_p0_c])], [], [], trivial, ⟨⟨row_Clone_p0_ok, trivial⟩, trivial⟩, trivial⟩
noncomputable def row_Subst_l6_step (g : (V_api_Type × V_api_Type × (List Int) × Int × Int × Unit) → Option T23) (x : (V_api_Type × V_api_Type × (List Int) × Int × Int × Unit)) : Option T23 :=
  cond (decide (x.2.2.2.2.1 < x.2.2.2.1))
    (ck (inB x.2.2.2.2.1 (x.2.1.1.length)) <|
    let v1 := (x.2.1.1.getD x.2.2.2.2.1.toNat (Ty.dflt t_api_Slot)).1
    cond (cond (decide (v1 < (0 : Int))) true (decide (v1 ≥ (x.2.2.1.length : Int))))
      (some (.inl ((7 : Int), ((), ()), x.2.1, ())))
      (ck (inB v1 (x.2.2.1.length)) <|
      ck (inB x.2.2.2.2.1 (x.2.1.1.length)) <|
      g (x.1, (x.2.1.1.set x.2.2.2.2.1.toNat (rdL (.int .i64) x.2.2.1 v1, (x.2.1.1.getD x.2.2.2.2.1.toNat (Ty.dflt t_api_Slot)).2), ()), x.2.2.1, x.2.2.2.1, IntKind.i64.wrap (x.2.2.2.2.1 + (1 : Int)), ())))
    (some (.inr (.inl (x.1, x.2.1, ()))))
noncomputable def k35l1 : LCtr := ⟨[4, 6, 1, 13, 14], (.cons (.ptr (.cons (.own t_api_Slot) .nil)) (.cons (.ptr (.cons (.own t_api_Slot) .nil)) (.cons (.val (.lst (.int .i64))) (.cons (.val (.int .i64)) (.cons (.val (.int .i64)) .nil))))), [some 0, some 1, some 2, some 3], [4, 6], [⟨.ret, [5, 4, 6], (.cons (.val (.int .i64)) (.cons (.ptr (.cons (.cst false) .nil)) (.cons (.ptr (.cons (.own t_api_Slot) .nil)) .nil))), [some 0, some 2, some 3]⟩, ⟨(.exit 0), [4, 6], (.cons (.ptr (.cons (.own t_api_Slot) .nil)) (.cons (.ptr (.cons (.own t_api_Slot) .nil)) .nil)), [some 0, some 1, some 2, some 3]⟩], fun _ => [(12, .sf 3)], lim row_Subst_l6_step⟩
theorem k35s : LsOK Tryz.prog Tryz.f220.ntmps (codeOf Tryz.f220) [(6, k35l1)] := loop_E 6 k35l1 k35 trivial (by kernel_rfl) rfl (fun g x => by kernel_rfl)
noncomputable def row_Subst (x : (V_api_Type × (List Int) × Unit)) : Option (V_api_Type × Int × Unit) :=
  Option.bind (row_Clone_p0 (x.1, ())) fun y1 => out1 y1
    (fun z2 =>
      Option.bind (lim row_Subst_l6_step ((([] : List V_api_Slot), ()), z2.1, x.2.1, (z2.1.1.length : Int), (0 : Int), ())) fun y3 => out2 y3
        (fun z4 =>
          some ((([] : List V_api_Slot), ()), z4.1, ()))
        (fun z5 =>
          some (z5.2.1, (0 : Int), ())))
noncomputable def row_Subst_c : Ctr := ⟨(.cons t_api_Type (.cons (.lst (.int .i64)) .nil)), (.cons t_api_Type (.cons (.int .i64) .nil)), row_Subst, none⟩
theorem row_Subst_ok : CtrOK Tryz.prog 220 row_Subst_c := fun_E k35 Tryz.func220 k35s (by kernel_rfl) (fun x => by kernel_rfl)
/-! ### easement/sig.Call: function 211 -/
noncomputable def k36 : FE Tryz.prog := ⟨[(142, sig_Check_c), (220, row_Subst_c), (206, relate_Flow_c)], [], [], [], ⟨sig_Check_ok, row_Subst_ok, relate_Flow_ok, trivial⟩, trivial, trivial⟩
noncomputable def sig_Call_l16_step (g : T24 → Option (V_relate_maker ⊕ Empty)) (x : T24) : Option (V_relate_maker ⊕ Empty) :=
  cond (decide (x.2.2.2.2.1 < x.2.2.2.1))
    (ck (inB x.2.2.2.2.1 (x.2.2.1.length)) <|
    let v1 := rdL t_easementref08_Pair x.2.2.1 x.2.2.2.2.1
    ck (inB v1.1 (x.1.length)) <|
    ck (inB v1.2.1 (x.1.length)) <|
    let v2 := x.2.1 ++ [(rdL (.int .i64) x.1 v1.1, rdL (.int .i64) x.1 v1.2.1, (4 : Int), x.2.2.2.2.1, false, ())]
    ck (roomB v2.length 46) <|
    g (x.1, v2, x.2.2.1, x.2.2.2.1, IntKind.i64.wrap (x.2.2.2.2.1 + (1 : Int)), ()))
    (some (.inl (x.2.1, ())))
noncomputable def k36l1 : LCtr := ⟨[1, 11, 43, 44, 45], (.cons (.val (.lst (.int .i64))) (.cons (.own t_api_Prov) (.cons (.val (.lst t_easementref08_Pair)) (.cons (.val (.int .i64)) (.cons (.val (.int .i64)) .nil))))), [none], [1, 2, 4, 7], [⟨(.exit 0), [11], (.cons (.own t_api_Prov) .nil), [none]⟩], fun _ => [], lim sig_Call_l16_step⟩
noncomputable def sig_Call_l26_step (g : T25 → Option T26) (x : T25) : Option T26 :=
  cond (decide (x.2.2.2.2.2.1 < x.2.2.2.2.1))
    (ck (inB x.2.2.2.2.2.1 (x.2.2.2.1.length)) <|
    Option.bind (row_Subst (rdL t_api_Type x.2.2.2.1 x.2.2.2.2.2.1, x.1, ())) fun y4 =>
    ck (inB x.2.2.2.2.2.1 (x.2.1.length)) <|
    Option.bind (relate_Flow (rdL t_api_Type x.2.1 x.2.2.2.2.2.1, y4.1, (5 : Int), IntKind.i64.wrap (x.2.2.2.2.2.1 * (16 : Int)), ())) fun y5 =>
    cond (y5.2.1 != (0 : Int))
      (some (.inl (([] : List V_api_Prov), y5.2.1, x.2.2.1, ())))
      (ck (roomB (x.2.2.1 ++ y5.1).length 46) <|
      g (x.1, x.2.1, x.2.2.1 ++ y5.1, x.2.2.2.1, x.2.2.2.2.1, IntKind.i64.wrap (x.2.2.2.2.2.1 + (1 : Int)), ())))
    (some (.inr (.inl (x.2.2.1, ()))))
noncomputable def k36l2 : LCtr := ⟨[1, 2, 11, 67, 68, 69], (.cons (.val (.lst (.int .i64))) (.cons (.val (.lst t_api_Type)) (.cons (.own t_api_Prov) (.cons (.val (.lst t_api_Type)) (.cons (.val (.int .i64)) (.cons (.val (.int .i64)) .nil)))))), [none], [1, 4, 7], [⟨.ret, [8, 9, 11], (.cons (.own t_api_Prov) (.cons (.val (.int .i64)) (.cons (.own t_api_Prov) .nil))), [none, none]⟩, ⟨(.exit 2), [11], (.cons (.own t_api_Prov) .nil), [none]⟩], fun _ => [], lim sig_Call_l26_step⟩
theorem k36s : LsOK Tryz.prog Tryz.f211.ntmps (codeOf Tryz.f211) [(26, k36l2), (16, k36l1)] := loop_E 26 k36l2 k36 (loop_E 16 k36l1 k36 trivial (by kernel_rfl) rfl (fun g x => by kernel_rfl)) (by kernel_rfl) rfl (fun g x => by kernel_rfl)
noncomputable def sig_Call (x : T27) : Option ((List V_api_Prov) × Int × Unit) :=
  Option.bind (sig_Check (x.1, ())) fun y1 =>
  cond (y1.1 != (0 : Int))
    (some (([] : List V_api_Prov), y1))
    (cond (cond ((x.2.1.length : Int) != x.1.1) true ((x.2.2.1.length : Int) != (x.1.2.2.1.length : Int)))
      (some (([] : List V_api_Prov), (2 : Int), ()))
      (Option.bind (lim sig_Call_l16_step (x.2.1, ([] : List V_api_Prov), x.1.2.1, (x.1.2.1.length : Int), (0 : Int), ())) fun y2 => out1 y2
        (fun z3 =>
          Option.bind (lim sig_Call_l26_step (x.2.1, x.2.2.1, z3.1, x.1.2.2.1, (x.1.2.2.1.length : Int), (0 : Int), ())) fun y6 => out2 y6
            (fun z7 =>
              some (z7.1, z7.2.1, ()))
            (fun z8 =>
              Option.bind (row_Subst (x.1.2.2.2, x.2.1, ())) fun y9 =>
              Option.bind (relate_Flow (y9.1, x.2.2.2.1, (6 : Int), (0 : Int), ())) fun y10 =>
              cond (y10.2.1 != (0 : Int))
                (some (([] : List V_api_Prov), y10.2))
                (ck (roomB (z8.1 ++ y10.1).length 46) <|
                some (z8.1 ++ y10.1, (0 : Int), ()))))))
noncomputable def sig_Call_c : Ctr := ⟨(.cons t_api_Sig (.cons (.lst (.int .i64)) (.cons (.lst t_api_Type) (.cons t_api_Type .nil)))), (.cons (.lst t_api_Prov) (.cons (.int .i64) .nil)), sig_Call, none⟩
theorem sig_Call_ok : CtrOK Tryz.prog 211 sig_Call_c := fun_E k36 Tryz.func211 k36s (by kernel_rfl) (fun x => by kernel_rfl)
/-! ### easement/term.needs: function 180 -/
noncomputable def k37 : FE Tryz.prog := ⟨[(206, relate_Flow_c), (211, sig_Call_c)], [], [], [], ⟨relate_Flow_ok, sig_Call_ok, trivial⟩, trivial, trivial⟩
noncomputable def term_needs_l14_step (g : T28 → Option (((List V_api_Type) × V_term_Around × Unit) ⊕ Empty)) (x : T28) : Option (((List V_api_Type) × V_term_Around × Unit) ⊕ Empty) :=
  cond (decide (x.2.2.2.2.1 < x.2.2.2.1))
    (ck (inB x.2.2.2.2.1 (x.2.2.1.length)) <|
    let v1 := rdL (.int .i64) x.2.2.1 x.2.2.2.2.1
    ck (inB v1 (x.1.2.2.1.length)) <|
    let v2 := x.2.1 ++ [rdL t_api_Type x.1.2.2.1 v1]
    ck (roomB v2.length 26) <|
    g (x.1, v2, x.2.2.1, x.2.2.2.1, IntKind.i64.wrap (x.2.2.2.2.1 + (1 : Int)), ()))
    (some (.inl (x.2.1, x.1, ())))
noncomputable def k37l1 : LCtr := ⟨[3, 6, 25, 26, 27], (.cons (.ptr q40) (.cons (.own t_api_Type) (.cons (.val (.lst (.int .i64))) (.cons (.val (.int .i64)) (.cons (.val (.int .i64)) .nil))))), [some 0, none], [2, 3], [⟨(.exit 1), [6, 3], (.cons (.own t_api_Type) (.cons (.ptr q40) .nil)), [none, some 0]⟩], fun _ => [], lim term_needs_l14_step⟩
theorem k37s : LsOK Tryz.prog Tryz.f180.ntmps (codeOf Tryz.f180) [(14, k37l1)] := loop_E 14 k37l1 k37 trivial (by kernel_rfl) rfl (fun g x => by kernel_rfl)
noncomputable def term_needs (x : (V_api_Term × V_term_Around × Unit)) : Option ((List V_api_Prov) × Int × Unit) :=
  cond (x.1.1 == (3 : Int))
    (ck (inB (0 : Int) (x.2.1.2.2.1.length)) <|
    Option.bind (relate_Flow (rdL t_api_Type x.2.1.2.2.1 (0 : Int), (x.2.1.2.2.2.1, ()), (7 : Int), (0 : Int), ())) fun y1 =>
    some y1)
    (cond (x.1.1 == (4 : Int))
      (Option.bind (lim term_needs_l14_step (x.2.1, ([] : List V_api_Type), x.1.2.2.2.2.1, (x.1.2.2.2.2.1.length : Int), (0 : Int), ())) fun y2 => out1 y2
        (fun z3 =>
          ck (inB x.1.2.1 (z3.2.1.2.2.2.2.1.length)) <|
          ck (inB x.1.2.2.1 (z3.2.1.2.2.1.length)) <|
          Option.bind (sig_Call (rdL t_api_Sig z3.2.1.2.2.2.2.1 x.1.2.1, x.1.2.2.2.2.2.1, z3.1, rdL t_api_Type z3.2.1.2.2.1 x.1.2.2.1, ())) fun y4 =>
          some y4))
      (some (([] : List V_api_Prov), (0 : Int), ())))
noncomputable def term_needs_c : Ctr := ⟨(.cons t_api_Term (.cons t_term_Around .nil)), (.cons (.lst t_api_Prov) (.cons (.int .i64) .nil)), term_needs, none⟩
theorem term_needs_ok : CtrOK Tryz.prog 180 term_needs_c := fun_E k37 Tryz.func180 k37s (by kernel_rfl) (fun x => by kernel_rfl)
/-! ### easement/term.Check: function 144 -/
noncomputable def k38 : FE Tryz.prog := ⟨[(159, term_form_c), (178, term_beyond_c), (209, term_beyond_1_c), (180, term_needs_c)], [(179, [slices_ContainsFunc_128_p0_c])], [], [], ⟨term_form_ok, term_beyond_ok, term_beyond_1_ok, term_needs_ok, trivial⟩, ⟨⟨slices_ContainsFunc_128_p0_ok, trivial⟩, trivial⟩, trivial⟩
noncomputable def term_Check_j37x_v (x : (V_api_Term × V_term_Around × Bool × Unit)) : Option ((Bool × V_api_Term × V_term_Around × Unit) ⊕ Empty) :=
  cond (x.2.2.1)
    (some (.inl (x.2.2.1, x.1, x.2.1, ())))
    (Option.bind (term_beyond (x.2.1.2.1, ())) fun y8 =>
    Option.bind (slices_ContainsFunc_128_p0 (x.1.2.2.2.2.2.1, y8, ())) fun y9 => out1 y9
      (fun z10 =>
        some (.inl (z10.1, x.1, x.2.1, ()))))
noncomputable def k38l1 : LCtr := ⟨[2, 3, 18], (.cons (.ptr q29) (.cons (.ptr q40) (.cons (.val .bool) .nil))), [], [2, 3, 6], [⟨.normal, [18, 2, 3], (.cons (.val .bool) (.cons (.ptr q29) (.cons (.ptr q40) .nil))), [some 0, some 1]⟩], fun _ => [], term_Check_j37x_v⟩
noncomputable def term_Check_j37_v (x : (V_api_Term × V_term_Around × ((Option (Int × Unit)) × Unit) × Bool × Unit)) : Option ((Bool × V_api_Term × V_term_Around × Unit) ⊕ Empty) :=
  cond (x.2.2.2.1)
    (some (.inl (x.2.2.2.1, x.1, x.2.1, ())))
    (Option.bind (slices_ContainsFunc_128_p0 (x.1.2.2.2.2.1, x.2.2.1, ())) fun y6 => out1 y6
      (fun z7 =>
        Option.bind (term_Check_j37x_v (x.1, x.2.1, z7)) fun y11 => out1 y11
          (fun z12 =>
            some (.inl z12))))
noncomputable def k38l2 : LCtr := ⟨[2, 3, 6, 18], (.cons (.ptr q29) (.cons (.ptr q40) (.cons (.clo 209 (.cons (.val (.ptr (.cons (.int .i64) .nil))) .nil)) (.cons (.val .bool) .nil)))), [], [2, 3, 6], [⟨.normal, [18, 2, 3], (.cons (.val .bool) (.cons (.ptr q29) (.cons (.ptr q40) .nil))), [some 0, some 1]⟩], fun _ => [], term_Check_j37_v⟩
theorem k38s : LsOK Tryz.prog Tryz.f144.ntmps (codeOf Tryz.f144) [(51539607589, k38l2), (60129542181, k38l1)] := join_E 51539607589 k38l2 k38 (join_E 60129542181 k38l1 k38 trivial (by kernel_rfl) (fun x => by kernel_rfl)) (by kernel_rfl) (fun x => by kernel_rfl)
noncomputable def term_Check (x : (V_api_Term × V_term_Around × Unit)) : Option (Int × Unit) :=
  Option.bind (term_form (x.1, ())) fun y1 =>
  cond (y1.1 != (0 : Int))
    (some y1)
    (Option.bind (term_beyond ((x.2.1.2.2.1.length : Int), ())) fun y2 =>
    Option.bind (term_beyond (x.2.1.1, ())) fun y3 =>
    Option.bind (slices_ContainsFunc_128_p0 (x.1.2.2.2.1, y3, ())) fun y4 => out1 y4
      (fun z5 =>
        Option.bind (term_Check_j37_v (x.1, x.2.1, y2, z5)) fun y13 => out1 y13
          (fun z14 =>
            cond (z14.1)
              (some ((7 : Int), ()))
              (cond (z14.2.1.1 == (4 : Int))
                (Option.bind (term_beyond_1 (z14.2.1.2.2.1, y2)) fun y15 =>
                cond (!y15.1)
                  (Option.bind (term_beyond ((z14.2.2.1.2.2.2.2.1.length : Int), ())) fun y16 =>
                  Option.bind (term_beyond_1 (z14.2.1.2.1, y16)) fun y17 =>
                  cond (y17.1)
                    (some ((7 : Int), ()))
                    (cond (cond (z14.2.1.1 == (3 : Int)) ((z14.2.2.1.2.2.1.length : Int) == (0 : Int)) false)
                      (some ((14 : Int), ()))
                      (Option.bind (term_needs z14.2) fun y18 =>
                      some y18.2)))
                  (some ((7 : Int), ())))
                (cond (cond (z14.2.1.1 == (3 : Int)) ((z14.2.2.1.2.2.1.length : Int) == (0 : Int)) false)
                  (some ((14 : Int), ()))
                  (Option.bind (term_needs z14.2) fun y19 =>
                  some y19.2))))))
noncomputable def term_Check_c : Ctr := ⟨(.cons t_api_Term (.cons t_term_Around .nil)), (.cons (.int .i64) .nil), term_Check, none⟩
theorem term_Check_ok : CtrOK Tryz.prog 144 term_Check_c := fun_E k38 Tryz.func144 k38s (by kernel_rfl) (fun x => by kernel_rfl)
/-! ### (*easement/valid.checker).blocks: function 96, at objects -/
noncomputable def k39 : FE Tryz.prog := ⟨[(139, valid_some_c), (138, valid_many_c), (143, stmt_Check_c), (144, term_Check_c)], [(137, [valid_checker_wrong_p0_c])], [], [], ⟨valid_some_ok, valid_many_ok, stmt_Check_ok, term_Check_ok, trivial⟩, ⟨⟨valid_checker_wrong_p0_ok, trivial⟩, trivial⟩, trivial⟩
noncomputable def valid_checker_blocks_p0_l8_step (g : T30 → Option T4) (x : T30) : Option T4 :=
  cond (decide (x.2.2.2.2.1 < x.2.2.2.1))
    (ck (inB x.2.2.2.2.1 (x.2.2.1.length)) <|
    let v1 := IntKind.i64.wrap (x.2.1 + ((rdL t_api_Block x.2.2.1 x.2.2.2.2.1).1.length : Int))
    Option.bind (valid_many (v1, ())) fun y4 =>
    Option.bind (valid_checker_wrong_p0 ((x.1.1, x.1.2.1, x.1.2.2.1, x.1.2.2.2.1, x.1.2.2.2.2.1, x.1.2.2.2.2.2.1, x.1.2.2.2.2.2.2.1, (), x.1.2.2.2.2.2.2.2.2), y4.1, (5 : Int), x.2.2.2.2.1, (0 : Int), ())) fun y5 => out1 y5
      (fun z6 =>
        g ((z6.1.1, z6.1.2.1, z6.1.2.2.1, z6.1.2.2.2.1, z6.1.2.2.2.2.1, z6.1.2.2.2.2.2.1, z6.1.2.2.2.2.2.2.1, (), z6.1.2.2.2.2.2.2.2.2), v1, x.2.2.1, x.2.2.2.1, IntKind.i64.wrap (x.2.2.2.2.1 + (1 : Int)), ())))
    (some (.inl ((x.1.1, x.1.2.1, x.1.2.2.1, x.1.2.2.2.1, x.1.2.2.2.2.1, x.1.2.2.2.2.2.1, x.1.2.2.2.2.2.2.1, (), x.1.2.2.2.2.2.2.2.2), ())))
noncomputable def k39l1 : LCtr := ⟨[0, 3, 22, 23, 24], (.cons (.ptr q5) (.cons (.val (.int .i64)) (.cons (.val (.lst t_api_Block)) (.cons (.val (.int .i64)) (.cons (.val (.int .i64)) .nil))))), [some 0], [0, 2], [⟨(.exit 0), [0], (.cons (.ptr q5) .nil), [some 0]⟩], fun _ => [], lim valid_checker_blocks_p0_l8_step⟩
noncomputable def valid_checker_blocks_p0_l28_step (g : T31 → Option T7) (x : T31) : Option T7 :=
  cond (decide (x.2.2.2.2.2.1 < x.2.2.2.2.1))
    (ck (inB x.2.2.2.2.2.1 (x.2.2.2.1.length)) <|
    Option.bind (stmt_Check (rdL t_api_Prov x.2.2.2.1 x.2.2.2.2.2.1, x.2.1.2.2.2.1, x.2.1.2.1, ())) fun y9 =>
    Option.bind (valid_checker_wrong_p0 ((x.1.1, x.1.2.1, x.1.2.2.1, x.1.2.2.2.1, x.1.2.2.2.2.1, x.1.2.2.2.2.2.1, x.1.2.2.2.2.2.2.1, (), x.1.2.2.2.2.2.2.2.2), y9.1, (6 : Int), x.2.2.1, x.2.2.2.2.2)) fun y10 => out1 y10
      (fun z11 =>
        g ((z11.1.1, z11.1.2.1, z11.1.2.2.1, z11.1.2.2.2.1, z11.1.2.2.2.2.1, z11.1.2.2.2.2.2.1, z11.1.2.2.2.2.2.2.1, (), z11.1.2.2.2.2.2.2.2.2), x.2.1, x.2.2.1, x.2.2.2.1, x.2.2.2.2.1, IntKind.i64.wrap (x.2.2.2.2.2.1 + (1 : Int)), ())))
    (some (.inl ((x.1.1, x.1.2.1, x.1.2.2.1, x.1.2.2.2.1, x.1.2.2.2.2.1, x.1.2.2.2.2.2.1, x.1.2.2.2.2.2.2.1, (), x.1.2.2.2.2.2.2.2.2), x.2.1, ())))
noncomputable def k39l2 : LCtr := ⟨[0, 2, 7, 61, 62, 63], (.cons (.ptr q5) (.cons (.ptr q2) (.cons (.val (.int .i64)) (.cons (.val (.lst t_api_Prov)) (.cons (.val (.int .i64)) (.cons (.val (.int .i64)) .nil)))))), [some 0, some 1], [0, 2, 6, 7, 8, 53, 54, 55], [⟨(.exit 4), [0, 2], (.cons (.ptr q5) (.cons (.ptr q2) .nil)), [some 0, some 1]⟩], fun _ => [], lim valid_checker_blocks_p0_l28_step⟩
noncomputable def valid_checker_blocks_p0_l22_step (g : T32 → Option T33) (x : T32) : Option T33 :=
  cond (decide (x.2.2.2.2.2.1 < x.2.2.2.2.1))
    (ck (inB x.2.2.2.2.2.1 (x.2.2.2.1.length)) <|
    let v1 := rdL t_api_Block x.2.2.2.1 x.2.2.2.2.2.1
    Option.bind (lim valid_checker_blocks_p0_l28_step ((x.1.1, x.1.2.1, x.1.2.2.1, x.1.2.2.2.1, x.1.2.2.2.2.1, x.1.2.2.2.2.2.1, x.1.2.2.2.2.2.2.1, (), x.1.2.2.2.2.2.2.2.2), x.2.1, x.2.2.2.2.2.1, v1.1, (v1.1.length : Int), (0 : Int), ())) fun y12 => out1 y12
      (fun z13 =>
        Option.bind (term_Check (v1.2, x.2.2.1, ())) fun y14 =>
        Option.bind (valid_checker_wrong_p0 ((z13.1.1, z13.1.2.1, z13.1.2.2.1, z13.1.2.2.2.1, z13.1.2.2.2.2.1, z13.1.2.2.2.2.2.1, z13.1.2.2.2.2.2.2.1, (), z13.1.2.2.2.2.2.2.2.2), y14.1, (7 : Int), x.2.2.2.2.2.1, (0 : Int), ())) fun y15 => out1 y15
          (fun z16 =>
            g ((z16.1.1, z16.1.2.1, z16.1.2.2.1, z16.1.2.2.2.1, z16.1.2.2.2.2.1, z16.1.2.2.2.2.2.1, z16.1.2.2.2.2.2.2.1, (), z16.1.2.2.2.2.2.2.2.2), z13.2.1, x.2.2.1, x.2.2.2.1, x.2.2.2.2.1, IntKind.i64.wrap (x.2.2.2.2.2.1 + (1 : Int)), ()))))
    (some (.inl ((x.1.1, x.1.2.1, x.1.2.2.1, x.1.2.2.2.1, x.1.2.2.2.2.1, x.1.2.2.2.2.2.1, x.1.2.2.2.2.2.2.1, (), x.1.2.2.2.2.2.2.2.2), x.2.1, x.2.2.1, ())))
noncomputable def k39l3 : LCtr := ⟨[0, 2, 6, 53, 54, 55], (.cons (.ptr q5) (.cons (.ptr q2) (.cons (.ptr q40) (.cons (.val (.lst t_api_Block)) (.cons (.val (.int .i64)) (.cons (.val (.int .i64)) .nil)))))), [some 0, some 1, some 2], [0], [⟨(.exit 2), [0, 2, 6], (.cons (.ptr q5) (.cons (.ptr q2) (.cons (.ptr q40) .nil))), [some 0, some 1, some 2]⟩], fun _ => [], lim valid_checker_blocks_p0_l22_step⟩
theorem k39s : LsOK Tryz.prog Tryz.f96.ntmps (codeOf Tryz.f96) [(22, k39l3), (28, k39l2), (8, k39l1)] := loop_E 22 k39l3 k39 (loop_E 28 k39l2 k39 (loop_E 8 k39l1 k39 trivial (by kernel_rfl) rfl (fun g x => by kernel_rfl)) (by kernel_rfl) rfl (fun g x => by kernel_rfl)) (by kernel_rfl) rfl (fun g x => by kernel_rfl)
noncomputable def valid_checker_blocks_p0 (x : T10) : Option T4 :=
  Option.bind (valid_some ((x.1.2.2.2.2.2.2.1.length : Int), ())) fun y1 =>
  Option.bind (valid_checker_wrong_p0 ((x.1.1, x.1.2.1, x.1.2.2.1, x.1.2.2.2.1, x.1.2.2.2.2.1, x.1.2.2.2.2.2.1, x.1.2.2.2.2.2.2.1, (), x.1.2.2.2.2.2.2.2.2), y1.1, (5 : Int), (0 : Int), (0 : Int), ())) fun y2 => out1 y2
    (fun z3 =>
      Option.bind (lim valid_checker_blocks_p0_l8_step ((z3.1.1, z3.1.2.1, z3.1.2.2.1, z3.1.2.2.2.1, z3.1.2.2.2.2.1, z3.1.2.2.2.2.2.1, z3.1.2.2.2.2.2.2.1, (), z3.1.2.2.2.2.2.2.2.2), (0 : Int), x.1.2.2.2.2.2.2.1, (x.1.2.2.2.2.2.2.1.length : Int), (0 : Int), ())) fun y7 => out1 y7
        (fun z8 =>
          Option.bind (lim valid_checker_blocks_p0_l22_step ((z8.1.1, z8.1.2.1, z8.1.2.2.1, z8.1.2.2.2.1, z8.1.2.2.2.2.1, z8.1.2.2.2.2.2.1, z8.1.2.2.2.2.2.2.1, (), z8.1.2.2.2.2.2.2.2.2), (x.1.1, x.1.2.1, x.1.2.2.1, x.1.2.2.2.1, x.1.2.2.2.2.1, x.1.2.2.2.2.2.1, x.1.2.2.2.2.2.2.1, ()), ((x.1.2.2.2.2.2.2.1.length : Int), x.1.2.1, x.1.2.2.2.1, x.1.2.2.2.2.1, x.1.2.2.2.2.2.1, ()), x.1.2.2.2.2.2.2.1, (x.1.2.2.2.2.2.2.1.length : Int), (0 : Int), ())) fun y17 => out1 y17
            (fun z18 =>
              some (.inl ((z18.1.1, z18.1.2.1, z18.1.2.2.1, z18.1.2.2.2.1, z18.1.2.2.2.2.1, z18.1.2.2.2.2.2.1, z18.1.2.2.2.2.2.2.1, (), z18.1.2.2.2.2.2.2.2.2), ())))))
noncomputable def k39L : LCtr := ⟨[0], (.cons (.ptr q5) .nil), [], [], [⟨.normal, [0], (.cons (.ptr q5) .nil), [some 0]⟩], fun _ => [], valid_checker_blocks_p0⟩
noncomputable def valid_checker_blocks_p0_c : PI := mkPI Tryz.f96 k39L
theorem valid_checker_blocks_p0_ok : PIOK Tryz.prog 96 valid_checker_blocks_p0_c := proc_E k39 Tryz.func96 k39s (by kernel_rfl) (fun x => by kernel_rfl)
/-! ### easement/valid.Check: function 75, at objects -/
noncomputable def k40 : FE Tryz.prog := ⟨[], [(94, [valid_checker_head_p0_c]), (95, [valid_checker_types_p0_c]), (96, [valid_checker_blocks_p0_c])], [], [], trivial, ⟨⟨valid_checker_head_p0_ok, trivial⟩, ⟨valid_checker_types_p0_ok, trivial⟩, ⟨valid_checker_blocks_p0_ok, trivial⟩, trivial⟩, trivial⟩
noncomputable def valid_Check_p0 (x : (V_api_Body × Unit × Unit)) : Option ((V_valid_Fault × Unit) ⊕ Empty) :=
  Option.bind (valid_checker_head_p0 ((x.1.1, x.1.2.1, x.1.2.2.1, x.1.2.2.2.1, x.1.2.2.2.2.1, x.1.2.2.2.2.2.1, x.1.2.2.2.2.2.2.1, (), (0 : Int), (0 : Int), (0 : Int), (0 : Int), ()), ())) fun y1 => out1 y1
    (fun z2 =>
      Option.bind (valid_checker_types_p0 ((z2.1.1, z2.1.2.1, z2.1.2.2.1, z2.1.2.2.2.1, z2.1.2.2.2.2.1, z2.1.2.2.2.2.2.1, z2.1.2.2.2.2.2.2.1, (), z2.1.2.2.2.2.2.2.2.2), ())) fun y3 => out1 y3
        (fun z4 =>
          Option.bind (valid_checker_blocks_p0 ((z4.1.1, z4.1.2.1, z4.1.2.2.1, z4.1.2.2.2.1, z4.1.2.2.2.2.1, z4.1.2.2.2.2.2.1, z4.1.2.2.2.2.2.2.1, (), z4.1.2.2.2.2.2.2.2.2), ())) fun y5 => out1 y5
            (fun z6 =>
              some (.inl (z6.1.2.2.2.2.2.2.2.2, ())))))
noncomputable def k40L : LCtr := ⟨[0, 1], (.cons (.val t_api_Body) (.cons (.cst true) .nil)), [], [], [⟨.ret, [4], (.cons (.ptr q46) .nil), [none]⟩], fun _ => [], valid_Check_p0⟩
noncomputable def valid_Check_p0_c : PI := mkPI Tryz.f75 k40L
theorem valid_Check_p0_ok : PIOK Tryz.prog 75 valid_Check_p0_c := proc_E (ls := []) k40 Tryz.func75 trivial (by kernel_rfl) (fun x => by kernel_rfl)
/-! ### easement/valid.OK: function 67 -/
noncomputable def k41 : FE Tryz.prog := ⟨[], [(75, [valid_Check_p0_c])], [], [], trivial, ⟨⟨valid_Check_p0_ok, trivial⟩, trivial⟩, trivial⟩
noncomputable def valid_OK (x : (V_api_Body × Unit)) : Option (Bool × Unit) :=
  Option.bind (valid_Check_p0 (x.1, (), ())) fun y1 => out1 y1
    (fun z2 =>
      some (z2.1.1 == (0 : Int), ()))
noncomputable def valid_OK_c : Ctr := ⟨(.cons t_api_Body .nil), (.cons .bool .nil), valid_OK, none⟩
theorem valid_OK_ok : CtrOK Tryz.prog 67 valid_OK_c := fun_E (ls := []) k41 Tryz.func67 trivial (by kernel_rfl) (fun x => by kernel_rfl)
/-! ### easement/point.New: function 46 -/
noncomputable def k42 : FE Tryz.prog := ⟨[(67, valid_OK_c)], [], [], [], ⟨valid_OK_ok, trivial⟩, trivial, trivial⟩
noncomputable def point_New_l10_step (g : (V_point_Points × (List V_api_Block) × Int × Int × Unit) → Option ((V_point_Points × Unit) ⊕ Empty)) (x : (V_point_Points × (List V_api_Block) × Int × Int × Unit)) : Option ((V_point_Points × Unit) ⊕ Empty) :=
  cond (decide (x.2.2.2.1 < x.2.2.1))
    (ck (inB x.2.2.2.1 (x.2.1.length)) <|
    let v1 := IntKind.i64.wrap ((x.1.1.length : Int) - (1 : Int))
    ck (inB v1 (x.1.1.length)) <|
    let v2 := x.1.1 ++ [IntKind.i64.wrap ((IntKind.i64.wrap ((x.1.1.getD v1.toNat (Ty.dflt (.int .i64))) + ((rdL t_api_Block x.2.1 x.2.2.2.1).1.length : Int))) + (1 : Int))]
    ck (roomB v2.length 10) <|
    g ((v2, ()), x.2.1, x.2.2.1, IntKind.i64.wrap (x.2.2.2.1 + (1 : Int)), ()))
    (some (.inl (x.1, ())))
noncomputable def k42l1 : LCtr := ⟨[3, 14, 15, 16], (.cons (.ptr (.cons (.own (.int .i64)) .nil)) (.cons (.val (.lst t_api_Block)) (.cons (.val (.int .i64)) (.cons (.val (.int .i64)) .nil)))), [some 0, none], [3], [⟨(.exit 0), [3], (.cons (.ptr (.cons (.own (.int .i64)) .nil)) .nil), [some 0, none]⟩], fun _ => [], lim point_New_l10_step⟩
theorem k42s : LsOK Tryz.prog Tryz.f46.ntmps (codeOf Tryz.f46) [(10, k42l1)] := loop_E 10 k42l1 k42 trivial (by kernel_rfl) rfl (fun g x => by kernel_rfl)
noncomputable def point_New (x : (V_api_Body × Unit)) : Option ((Option V_point_Points) × Unit) :=
  Option.bind (valid_OK x) fun y1 =>
  cond (!y1.1)
    (some (some ([(0 : Int)], ()), ()))
    (Option.bind (lim point_New_l10_step (([(0 : Int)], ()), x.1.2.2.2.2.2.2.1, (x.1.2.2.2.2.2.2.1.length : Int), (0 : Int), ())) fun y2 => out1 y2
      (fun z3 =>
        some (some z3.1, ())))
noncomputable def point_New_c : Ctr := ⟨(.cons t_api_Body .nil), (.cons (.ptr (.cons (.lst (.int .i64)) .nil)) .nil), point_New, none⟩
theorem point_New_ok : CtrOK Tryz.prog 46 point_New_c := fun_E k42 Tryz.func46 k42s (by kernel_rfl) (fun x => by kernel_rfl)
/-! ### (*easement/point.Points).Len: function 25 -/
noncomputable def point_Points_Len (x : ((Option V_point_Points) × Unit)) : Option (Int × Unit) :=
  cond (x.1.isNone)
    (some ((0 : Int), ()))
    (ck (x.1.isSome) <|
    ck (x.1.isSome) <|
    let v1 := IntKind.i64.wrap (((x.1.getD (Ty.dflt (.cons (.lst (.int .i64)) .nil))).1.length : Int) - (1 : Int))
    let v2 := (x.1.getD (Ty.dflt (.cons (.lst (.int .i64)) .nil))).1
    ck (inB v1 (v2.length)) <|
    some (rdL (.int .i64) v2 v1, ()))
noncomputable def point_Points_Len_c : Ctr := ⟨(.cons (.ptr (.cons (.lst (.int .i64)) .nil)) .nil), (.cons (.int .i64) .nil), point_Points_Len, none⟩
theorem point_Points_Len_ok : CtrOK Tryz.prog 25 point_Points_Len_c := fun_E (ls := []) k0 Tryz.func25 trivial (by kernel_rfl) (fun x => by kernel_rfl)
/-! ### (*easement/point.Points).Blocks: function 81 -/
noncomputable def point_Points_Blocks (x : ((Option V_point_Points) × Unit)) : Option (Int × Unit) :=
  cond (x.1.isNone)
    (some ((0 : Int), ()))
    (ck (x.1.isSome) <|
    some (IntKind.i64.wrap (((x.1.getD (Ty.dflt (.cons (.lst (.int .i64)) .nil))).1.length : Int) - (1 : Int)), ()))
noncomputable def point_Points_Blocks_c : Ctr := ⟨(.cons (.ptr (.cons (.lst (.int .i64)) .nil)) .nil), (.cons (.int .i64) .nil), point_Points_Blocks, none⟩
theorem point_Points_Blocks_ok : CtrOK Tryz.prog 81 point_Points_Blocks_c := fun_E (ls := []) k0 Tryz.func81 trivial (by kernel_rfl) (fun x => by kernel_rfl)
/-! ### (*easement/point.Points).At$1: function 82, at objects -/
noncomputable def point_Points_At_1_p0 (x : (Int × ((Option V_point_Points) × Unit) × (Int × Unit) × Unit)) : Option ((Bool × ((Option V_point_Points) × Unit) × (Int × Unit) × Unit) ⊕ Empty) :=
  ck (x.2.1.1.isSome) <|
  let v1 := IntKind.i64.wrap (x.1 + (1 : Int))
  let v2 := (x.2.1.1.getD (Ty.dflt (.cons (.lst (.int .i64)) .nil))).1
  ck (inB v1 (v2.length)) <|
  some (.inl (decide ((rdL (.int .i64) v2 v1) > x.2.2.1.1), x.2))
noncomputable def k45L : LCtr := ⟨[0, 1, 2], (.cons (.val (.int .i64)) (.cons (.ptr (.cons (.val (.ptr (.cons (.lst (.int .i64)) .nil))) .nil)) (.cons (.ptr (.cons (.val (.int .i64)) .nil)) .nil))), [], [], [⟨.ret, [4, 1, 2], (.cons (.val .bool) (.cons (.ptr (.cons (.val (.ptr (.cons (.lst (.int .i64)) .nil))) .nil)) (.cons (.ptr (.cons (.val (.int .i64)) .nil)) .nil))), [some 0, some 1]⟩], fun _ => [], point_Points_At_1_p0⟩
noncomputable def point_Points_At_1_p0_c : PI := mkPI Tryz.f82 k45L
theorem point_Points_At_1_p0_ok : PIOK Tryz.prog 82 point_Points_At_1_p0_c := proc_E (ls := []) k0 Tryz.func82 trivial (by kernel_rfl) (fun x => by kernel_rfl)
/-! ### sort.Search: function 80, at objects -/
noncomputable def k46 : FE Tryz.prog := ⟨[], [(82, [point_Points_At_1_p0_c])], [], [], trivial, ⟨⟨point_Points_At_1_p0_ok, trivial⟩, trivial⟩, trivial⟩
noncomputable def sort_Search_p0_j43_v (x : (Int × Int × Int × Bool × Unit)) : Option (V_easementref08_Pair ⊕ Empty) :=
  cond (x.2.2.2.1)
    (some (.inl (IntKind.i64.wrap (x.2.2.1 + (1 : Int)), x.2.1, ())))
    (some (.inl (x.1, x.2.2.1, ())))
noncomputable def k46l1 : LCtr := ⟨[5, 6, 7, 21], (.cons (.val (.int .i64)) (.cons (.val (.int .i64)) (.cons (.val (.int .i64)) (.cons (.val .bool) .nil)))), [], [1], [⟨.normal, [5, 6], (.cons (.val (.int .i64)) (.cons (.val (.int .i64)) .nil)), []⟩], fun _ => [], sort_Search_p0_j43_v⟩
noncomputable def sort_Search_p0_l4_step (g : T36 → Option T37) (x : T36) : Option T37 :=
  cond (decide (x.2.1 < x.2.2.1))
    (ck (decide (0 ≤ (1 : Int))) <|
    let v1 := IntKind.i64.wrap (shrOf .u64 (IntKind.u64.wrap (IntKind.i64.wrap (x.2.1 + x.2.2.1))) (1 : Int))
    Option.bind (point_Points_At_1_p0 (v1, x.1)) fun y1 => out1 y1
      (fun z2 =>
        Option.bind (sort_Search_p0_j43_v (x.2.1, x.2.2.1, v1, !z2.1, ())) fun y3 => out1 y3
          (fun z4 =>
            g (z2.2, z4))))
    (some (.inl (x.2.1, x.1, ())))
noncomputable def k46l2 : LCtr := ⟨[1, 5, 6], (.cons (.clo 82 q51) (.cons (.val (.int .i64)) (.cons (.val (.int .i64)) .nil))), [some 0, some 1], [0, 1], [⟨(.exit 0), [5, 1], (.cons (.val (.int .i64)) (.cons (.clo 82 q51) .nil)), [some 0, some 1]⟩], fun _ => [], lim sort_Search_p0_l4_step⟩
theorem k46s : LsOK Tryz.prog Tryz.f80.ntmps (codeOf Tryz.f80) [(4, k46l2), (51540262955, k46l1)] := loop_E 4 k46l2 k46 (join_E 51540262955 k46l1 k46 trivial (by kernel_rfl) (fun x => by kernel_rfl)) (by kernel_rfl) rfl (fun g x => by kernel_rfl)
noncomputable def sort_Search_p0 (x : (Int × (((Option V_point_Points) × Unit) × (Int × Unit) × Unit) × Unit)) : Option T37 :=
  Option.bind (lim sort_Search_p0_l4_step (x.2.1, (0 : Int), x.1, ())) fun y5 => out1 y5
    (fun z6 =>
      some (.inl z6))
noncomputable def k46L : LCtr := ⟨[0, 1], (.cons (.val (.int .i64)) (.cons (.clo 82 q51) .nil)), [], [], [⟨.ret, [4, 1], (.cons (.val (.int .i64)) (.cons (.clo 82 q51) .nil)), [some 0, some 1]⟩], fun _ => [], sort_Search_p0⟩
noncomputable def sort_Search_p0_c : PI := mkPI Tryz.f80 k46L
theorem sort_Search_p0_ok : PIOK Tryz.prog 80 sort_Search_p0_c := proc_E k46 Tryz.func80 k46s (by kernel_rfl) (fun x => by kernel_rfl)
/-! ### (*easement/point.Points).At: function 47 -/
noncomputable def k47 : FE Tryz.prog := ⟨[(25, point_Points_Len_c), (81, point_Points_Blocks_c)], [(80, [sort_Search_p0_c])], [], [], ⟨point_Points_Len_ok, point_Points_Blocks_ok, trivial⟩, ⟨⟨sort_Search_p0_ok, trivial⟩, trivial⟩, trivial⟩
noncomputable def point_Points_At (x : ((Option V_point_Points) × Int × Unit)) : Option (Int × Int × Bool × Unit) :=
  cond (!(decide (x.2.1 < (0 : Int))))
    (Option.bind (point_Points_Len (x.1, ())) fun y1 =>
    cond (decide (x.2.1 ≥ y1.1))
      (some ((0 : Int), (0 : Int), false, ()))
      (Option.bind (point_Points_Blocks (x.1, ())) fun y2 =>
      Option.bind (sort_Search_p0 (y2.1, ((x.1, ()), x.2, ()), ())) fun y3 => out1 y3
        (fun z4 =>
          ck (z4.2.1.1.1.isSome) <|
          let v1 := (z4.2.1.1.1.getD (Ty.dflt (.cons (.lst (.int .i64)) .nil))).1
          ck (inB z4.1 (v1.length)) <|
          some (z4.1, IntKind.i64.wrap (z4.2.1.2.1.1 - (rdL (.int .i64) v1 z4.1)), true, ()))))
    (some ((0 : Int), (0 : Int), false, ()))
noncomputable def point_Points_At_c : Ctr := ⟨(.cons (.ptr (.cons (.lst (.int .i64)) .nil)) (.cons (.int .i64) .nil)), (.cons (.int .i64) (.cons (.int .i64) (.cons .bool .nil))), point_Points_At, none⟩
theorem point_Points_At_ok : CtrOK Tryz.prog 47 point_Points_At_c := fun_E (ls := []) k47 Tryz.func47 trivial (by kernel_rfl) (fun x => by kernel_rfl)
/-! ### (*easement/point.Points).Ends: function 48 -/
noncomputable def k48 : FE Tryz.prog := ⟨[(47, point_Points_At_c)], [], [], [], ⟨point_Points_At_ok, trivial⟩, trivial, trivial⟩
noncomputable def point_Points_Ends (x : ((Option V_point_Points) × Int × Unit)) : Option (Bool × Unit) :=
  Option.bind (point_Points_At x) fun y1 =>
  ck ((x.1.isSome) || !y1.2.2.1) <|
  let v1 := IntKind.i64.wrap (y1.1 + (1 : Int))
  let v2 := (x.1.getD (Ty.dflt (.cons (.lst (.int .i64)) .nil))).1
  ck ((inB v1 (v2.length)) || !y1.2.2.1) <|
  ck ((x.1.isSome) || !y1.2.2.1) <|
  let v3 := (x.1.getD (Ty.dflt (.cons (.lst (.int .i64)) .nil))).1
  ck ((inB y1.1 (v3.length)) || !y1.2.2.1) <|
  some (cond y1.2.2.1 (y1.2.1 == (IntKind.i64.wrap ((IntKind.i64.wrap ((rdL (.int .i64) v2 v1) - (rdL (.int .i64) v3 y1.1))) - (1 : Int)))) false, ())
noncomputable def point_Points_Ends_c : Ctr := ⟨(.cons (.ptr (.cons (.lst (.int .i64)) .nil)) (.cons (.int .i64) .nil)), (.cons .bool .nil), point_Points_Ends, none⟩
theorem point_Points_Ends_ok : CtrOK Tryz.prog 48 point_Points_Ends_c := fun_E (ls := []) k48 Tryz.func48 trivial (by kernel_rfl) (fun x => by kernel_rfl)
/-! ### (*easement/point.Points).Of: function 56 -/
noncomputable def k49 : FE Tryz.prog := ⟨[(81, point_Points_Blocks_c)], [], [], [], ⟨point_Points_Blocks_ok, trivial⟩, trivial, trivial⟩
noncomputable def point_Points_Of (x : ((Option V_point_Points) × Int × Int × Unit)) : Option (Int × Bool × Unit) :=
  cond (!(decide (x.2.1 < (0 : Int))))
    (Option.bind (point_Points_Blocks (x.1, ())) fun y1 =>
    let v1 := cond (decide (x.2.1 ≥ y1.1)) true (decide (x.2.2.1 < (0 : Int)))
    ck ((x.1.isSome) || !(!v1)) <|
    let v2 := IntKind.i64.wrap (x.2.1 + (1 : Int))
    let v3 := (x.1.getD (Ty.dflt (.cons (.lst (.int .i64)) .nil))).1
    ck ((inB v2 (v3.length)) || !(!v1)) <|
    ck ((x.1.isSome) || !(!v1)) <|
    let v4 := (x.1.getD (Ty.dflt (.cons (.lst (.int .i64)) .nil))).1
    ck ((inB x.2.1 (v4.length)) || !(!v1)) <|
    cond (cond v1 true (decide (x.2.2.1 ≥ (IntKind.i64.wrap ((rdL (.int .i64) v3 v2) - (rdL (.int .i64) v4 x.2.1))))))
      (some ((0 : Int), false, ()))
      (ck (x.1.isSome) <|
      let v5 := (x.1.getD (Ty.dflt (.cons (.lst (.int .i64)) .nil))).1
      ck (inB x.2.1 (v5.length)) <|
      some (IntKind.i64.wrap ((rdL (.int .i64) v5 x.2.1) + x.2.2.1), true, ())))
    (ck ((x.1.isSome) || !false) <|
    ck ((inB (IntKind.i64.wrap (x.2.1 + (1 : Int))) ((x.1.getD (Ty.dflt (.cons (.lst (.int .i64)) .nil))).1.length)) || !false) <|
    ck ((x.1.isSome) || !false) <|
    ck ((inB x.2.1 ((x.1.getD (Ty.dflt (.cons (.lst (.int .i64)) .nil))).1.length)) || !false) <|
    some ((0 : Int), false, ()))
noncomputable def point_Points_Of_c : Ctr := ⟨(.cons (.ptr (.cons (.lst (.int .i64)) .nil)) (.cons (.int .i64) (.cons (.int .i64) .nil))), (.cons (.int .i64) (.cons .bool .nil)), point_Points_Of, none⟩
theorem point_Points_Of_ok : CtrOK Tryz.prog 56 point_Points_Of_c := fun_E (ls := []) k49 Tryz.func56 trivial (by kernel_rfl) (fun x => by kernel_rfl)
/-! ### easement/graph.lay$1: function 155, at objects -/
noncomputable def graph_lay_1_p0 (x : (V_easementref08_Pair × (Bool × Unit) × Unit)) : Option ((Int × (Bool × Unit) × Unit) ⊕ Empty) :=
  cond (x.2.1.1)
    (some (.inl (x.1.2.1, x.2)))
    (some (.inl (x.1.1, x.2)))
noncomputable def k50L : LCtr := ⟨[0, 1], (.cons (.val t_easementref08_Pair) (.cons (.ptr (.cons (.val .bool) .nil)) .nil)), [], [], [⟨.ret, [3, 1], (.cons (.val (.int .i64)) (.cons (.ptr (.cons (.val .bool) .nil)) .nil)), [some 0]⟩], fun _ => [], graph_lay_1_p0⟩
noncomputable def graph_lay_1_p0_c : PI := mkPI Tryz.f155 k50L
theorem graph_lay_1_p0_ok : PIOK Tryz.prog 155 graph_lay_1_p0_c := proc_E (ls := []) k0 Tryz.func155 trivial (by kernel_rfl) (fun x => by kernel_rfl)
/-! ### easement/graph.lay: function 113 -/
noncomputable def k51 : FE Tryz.prog := ⟨[], [(155, [graph_lay_1_p0_c])], [], [], trivial, ⟨⟨graph_lay_1_p0_ok, trivial⟩, trivial⟩, trivial⟩
noncomputable def graph_lay_l8_step (g : T39 → Option ((((Bool × Unit) × Unit) × (List Int) × Unit) ⊕ Empty)) (x : T39) : Option ((((Bool × Unit) × Unit) × (List Int) × Unit) ⊕ Empty) :=
  cond (decide (x.2.2.2.2.1 < x.2.2.2.1))
    (ck (inB x.2.2.2.2.1 (x.2.2.1.length)) <|
    Option.bind (graph_lay_1_p0 (rdL t_easementref08_Pair x.2.2.1 x.2.2.2.2.1, x.1)) fun y1 => out1 y1
      (fun z2 =>
        let v1 := IntKind.i64.wrap (z2.1 + (1 : Int))
        ck (inB v1 (x.2.1.length)) <|
        ck (inB v1 (x.2.1.length)) <|
        g (z2.2, x.2.1.set v1.toNat (IntKind.i32.wrap ((x.2.1.getD v1.toNat (Ty.dflt (.int .i32))) + (1 : Int))), x.2.2.1, x.2.2.2.1, IntKind.i64.wrap (x.2.2.2.2.1 + (1 : Int)), ())))
    (some (.inl (x.1, x.2.1, ())))
noncomputable def k51l1 : LCtr := ⟨[8, 9, 22, 23, 24], (.cons (.clo 155 (.cons (.ptr (.cons (.val .bool) .nil)) .nil)) (.cons (.own (.int .i32)) (.cons (.val (.lst t_easementref08_Pair)) (.cons (.val (.int .i64)) (.cons (.val (.int .i64)) .nil))))), [some 0, some 1], [0, 1, 8, 9], [⟨(.exit 0), [8, 9], (.cons (.clo 155 (.cons (.ptr (.cons (.val .bool) .nil)) .nil)) (.cons (.own (.int .i32)) .nil)), [some 0, some 1]⟩], fun _ => [], lim graph_lay_l8_step⟩
noncomputable def graph_lay_l18_step (g : ((List Int) × Int × Int × Unit) → Option (V_point_Points ⊕ Empty)) (x : ((List Int) × Int × Int × Unit)) : Option (V_point_Points ⊕ Empty) :=
  cond (decide (x.2.2.1 < x.2.1))
    (let v1 := IntKind.i64.wrap (x.2.2.1 + (1 : Int))
    ck (inB v1 (x.1.length)) <|
    ck (inB x.2.2.1 (x.1.length)) <|
    ck (inB v1 (x.1.length)) <|
    g (x.1.set v1.toNat (IntKind.i32.wrap ((x.1.getD v1.toNat (Ty.dflt (.int .i32))) + (x.1.getD x.2.2.1.toNat (Ty.dflt (.int .i32))))), x.2.1, IntKind.i64.wrap (x.2.2.1 + (1 : Int)), ()))
    (some (.inl (x.1, ())))
noncomputable def k51l2 : LCtr := ⟨[9, 38, 39], (.cons (.own (.int .i32)) (.cons (.val (.int .i64)) (.cons (.val (.int .i64)) .nil))), [some 0], [1, 8, 9], [⟨(.exit 2), [9], (.cons (.own (.int .i32)) .nil), [some 0]⟩], fun _ => [], lim graph_lay_l18_step⟩
noncomputable def graph_lay_l32_step (g : T40 → Option T41) (x : T40) : Option T41 :=
  cond (decide (x.2.2.2.2.2.1 < x.2.2.2.2.1))
    (ck (inB x.2.2.2.2.2.1 (x.2.2.2.1.length)) <|
    Option.bind (graph_lay_1_p0 (rdL t_easementref08_Pair x.2.2.2.1 x.2.2.2.2.2.1, x.1)) fun y7 => out1 y7
      (fun z8 =>
        ck (inB z8.1 (x.2.1.length)) <|
        let v1 := x.2.1.getD z8.1.toNat (Ty.dflt (.int .i32))
        ck (inB v1 (x.2.2.1.length)) <|
        ck (inB z8.1 (x.2.1.length)) <|
        ck (inB z8.1 (x.2.1.length)) <|
        g (z8.2, x.2.1.set z8.1.toNat (IntKind.i32.wrap ((x.2.1.getD z8.1.toNat (Ty.dflt (.int .i32))) + (1 : Int))), x.2.2.1.set v1.toNat (IntKind.i32.wrap x.2.2.2.2.2.1), x.2.2.2.1, x.2.2.2.2.1, IntKind.i64.wrap (x.2.2.2.2.2.1 + (1 : Int)), ())))
    (some (.inl (x.1, x.2.1, x.2.2.1, ())))
noncomputable def k51l3 : LCtr := ⟨[8, 13, 14, 59, 60, 61], (.cons (.clo 155 (.cons (.ptr (.cons (.val .bool) .nil)) .nil)) (.cons (.own (.int .i32)) (.cons (.own (.int .i32)) (.cons (.val (.lst t_easementref08_Pair)) (.cons (.val (.int .i64)) (.cons (.val (.int .i64)) .nil)))))), [some 0, some 1, some 2], [9, 14], [⟨(.exit 4), [8, 13, 14], (.cons (.clo 155 (.cons (.ptr (.cons (.val .bool) .nil)) .nil)) (.cons (.own (.int .i32)) (.cons (.own (.int .i32)) .nil))), [some 0, some 1, some 2]⟩], fun _ => [], lim graph_lay_l32_step⟩
theorem k51s : LsOK Tryz.prog Tryz.f113.ntmps (codeOf Tryz.f113) [(32, k51l3), (18, k51l2), (8, k51l1)] := loop_E 32 k51l3 k51 (loop_E 18 k51l2 k51 (loop_E 8 k51l1 k51 trivial (by kernel_rfl) rfl (fun g x => by kernel_rfl)) (by kernel_rfl) rfl (fun g x => by kernel_rfl)) (by kernel_rfl) rfl (fun g x => by kernel_rfl)
noncomputable def graph_lay (x : (Int × (List V_easementref08_Pair) × Bool × Unit)) : Option ((List Int) × (List Int) × Unit) :=
  let v1 := IntKind.i64.wrap (x.1 + (1 : Int))
  ck (decide (0 ≤ v1) && decide (v1 ≤ v1) && decide (v1 * ((6 : Nat) : Int) ≤ 35184372088832)) <|
  Option.bind (lim graph_lay_l8_step ((x.2.2, ()), List.replicate v1.toNat ((0 : Int) : Int), x.2.1, (x.2.1.length : Int), (0 : Int), ())) fun y3 => out1 y3
    (fun z4 =>
      Option.bind (lim graph_lay_l18_step (z4.2.1, x.1, (0 : Int), ())) fun y5 => out1 y5
        (fun z6 =>
          ck (roomB (([] : List Int) ++ z6.1).length 6) <|
          ck (decide (0 ≤ (x.2.1.length : Int)) && decide ((x.2.1.length : Int) ≤ (x.2.1.length : Int)) && decide ((x.2.1.length : Int) * ((6 : Nat) : Int) ≤ 35184372088832)) <|
          Option.bind (lim graph_lay_l32_step (z4.1, ([] : List Int) ++ z6.1, List.replicate (x.2.1.length : Int).toNat ((0 : Int) : Int), x.2.1, (x.2.1.length : Int), (0 : Int), ())) fun y9 => out1 y9
            (fun z10 =>
              some (z10.2.2.1, z6))))
noncomputable def graph_lay_c : Ctr := ⟨(.cons (.int .i64) (.cons (.lst t_easementref08_Pair) (.cons .bool .nil))), (.cons (.lst (.int .i32)) (.cons (.lst (.int .i32)) .nil)), graph_lay, none⟩
theorem graph_lay_ok : CtrOK Tryz.prog 113 graph_lay_c := fun_E k51 Tryz.func113 k51s (by kernel_rfl) (fun x => by kernel_rfl)
/-! ### easement/graph.New: function 85 -/
noncomputable def k52 : FE Tryz.prog := ⟨[(113, graph_lay_c)], [], [], [], ⟨graph_lay_ok, trivial⟩, trivial, trivial⟩
noncomputable def graph_New_l12_step (g : (Int × (List V_easementref08_Pair) × Int × Int × Unit) → Option ((Unit × Int × Unit) ⊕ (Unit ⊕ Empty))) (x : (Int × (List V_easementref08_Pair) × Int × Int × Unit)) : Option ((Unit × Int × Unit) ⊕ (Unit ⊕ Empty)) :=
  cond (decide (x.2.2.2.1 < x.2.2.1))
    (ck (inB x.2.2.2.1 (x.2.1.length)) <|
    let v1 := rdL t_easementref08_Pair x.2.1 x.2.2.2.1
    cond (cond (cond (cond (decide (v1.1 < (0 : Int))) true (decide (v1.1 ≥ x.1))) true (decide (v1.2.1 < (0 : Int)))) true (decide (v1.2.1 ≥ x.1)))
      (some (.inl ((), (7 : Int), ())))
      (g (x.1, x.2.1, x.2.2.1, IntKind.i64.wrap (x.2.2.2.1 + (1 : Int)), ())))
    (some (.inr (.inl ())))
noncomputable def k52l1 : LCtr := ⟨[0, 20, 21, 22], (.cons (.val (.int .i64)) (.cons (.val (.lst t_easementref08_Pair)) (.cons (.val (.int .i64)) (.cons (.val (.int .i64)) .nil)))), [], [0, 1], [⟨.ret, [4, 5], (.cons (.cst true) (.cons (.val (.int .i64)) .nil)), []⟩, ⟨(.exit 1), [], .nil, []⟩], fun _ => [], lim graph_New_l12_step⟩
theorem k52s : LsOK Tryz.prog Tryz.f85.ntmps (codeOf Tryz.f85) [(12, k52l1)] := loop_E 12 k52l1 k52 trivial (by kernel_rfl) rfl (fun g x => by kernel_rfl)
noncomputable def graph_New (x : (Int × (List V_easementref08_Pair) × Unit)) : Option ((Option V_graph_Graph) × Int × Unit) :=
  cond (decide (x.1 < (0 : Int)))
    (some ((none : Option V_graph_Graph), (2 : Int), ()))
    (cond (cond (decide (x.1 > (1048576 : Int))) true (decide ((x.2.1.length : Int) > (67108864 : Int))))
      (some ((none : Option V_graph_Graph), (5 : Int), ()))
      (Option.bind (lim graph_New_l12_step (x.1, x.2.1, (x.2.1.length : Int), (0 : Int), ())) fun y1 => out2 y1
        (fun z2 =>
          some ((none : Option V_graph_Graph), z2.2))
        (fun z3 =>
          let v1 := ([] : List V_easementref08_Pair)
          ck (roomB (v1 ++ x.2.1).length 19) <|
          Option.bind (graph_lay (x.1, v1 ++ x.2.1, false, ())) fun y4 =>
          Option.bind (graph_lay (x.1, v1 ++ x.2.1, true, ())) fun y5 =>
          some (some (x.1, v1 ++ x.2.1, y4.1, y5.1, y4.2.1, y5.2), (0 : Int), ()))))
noncomputable def graph_New_c : Ctr := ⟨(.cons (.int .i64) (.cons (.lst t_easementref08_Pair) .nil)), (.cons (.ptr (.cons (.int .i64) (.cons (.lst t_easementref08_Pair) (.cons (.lst (.int .i32)) (.cons (.lst (.int .i32)) (.cons (.lst (.int .i32)) (.cons (.lst (.int .i32)) .nil))))))) (.cons (.int .i64) .nil)), graph_New, none⟩
theorem graph_New_ok : CtrOK Tryz.prog 85 graph_New_c := fun_E k52 Tryz.func85 k52s (by kernel_rfl) (fun x => by kernel_rfl)
/-! ### easement/flow.least: function 59 -/
noncomputable def k53 : FE Tryz.prog := ⟨[(85, graph_New_c)], [], [], [], ⟨graph_New_ok, trivial⟩, trivial, trivial⟩
noncomputable def flow_least (x : (Int × (List V_easementref08_Pair) × Unit)) : Option ((Option V_graph_Graph) × Unit) :=
  Option.bind (graph_New x) fun y1 =>
  cond (y1.2.1 != (0 : Int))
    (some ((none : Option V_graph_Graph), ()))
    (some (y1.1, ()))
noncomputable def flow_least_c : Ctr := ⟨(.cons (.int .i64) (.cons (.lst t_easementref08_Pair) .nil)), (.cons (.ptr (.cons (.int .i64) (.cons (.lst t_easementref08_Pair) (.cons (.lst (.int .i32)) (.cons (.lst (.int .i32)) (.cons (.lst (.int .i32)) (.cons (.lst (.int .i32)) .nil))))))) .nil), flow_least, none⟩
theorem flow_least_ok : CtrOK Tryz.prog 59 flow_least_c := fun_E (ls := []) k53 Tryz.func59 trivial (by kernel_rfl) (fun x => by kernel_rfl)
/-! ### easement/flow.New: function 20 -/
noncomputable def k54 : FE Tryz.prog := ⟨[(46, point_New_c), (25, point_Points_Len_c), (47, point_Points_At_c), (48, point_Points_Ends_c), (56, point_Points_Of_c), (59, flow_least_c)], [], [], [(57, 0), (58, 1)], ⟨point_New_ok, point_Points_Len_ok, point_Points_At_ok, point_Points_Ends_ok, point_Points_Of_ok, flow_least_ok, trivial⟩, trivial, ⟨S189_ok, S20_ok, trivial⟩⟩
noncomputable def flow_New_l22_step (g : T42 → Option T43) (x : T42) : Option T43 :=
  cond (decide (x.2.2.2.2.1 < x.2.2.2.1))
    (ck (inB x.2.2.2.2.1 (x.2.2.1.length)) <|
    Option.bind (point_Points_Of (x.1.1, rdL (.int .i64) x.2.2.1 x.2.2.2.2.1, (0 : Int), ())) fun y5 =>
    ck (roomB (x.2.1 ++ [y5.1]).length 10) <|
    g ((x.1.1, (), ()), x.2.1 ++ [y5.1], x.2.2.1, x.2.2.2.1, IntKind.i64.wrap (x.2.2.2.2.1 + (1 : Int)), ()))
    (some (.inl (x.2.1, (x.1.1, (), ()), ())))
noncomputable def k54l1 : LCtr := ⟨[3, 9, 58, 59, 60], (.cons (.ptr q61) (.cons (.own (.int .i64)) (.cons (.val (.lst (.int .i64))) (.cons (.val (.int .i64)) (.cons (.val (.int .i64)) .nil))))), [some 0, none], [1, 3, 4, 5, 24, 25], [⟨(.exit 2), [9, 3], (.cons (.own (.int .i64)) (.cons (.ptr q61) .nil)), [none, some 0]⟩], fun _ => [], lim flow_New_l22_step⟩
noncomputable def flow_New_l36_step (g : T44 → Option (((List V_easementref08_Pair) × (List Int) × Unit) ⊕ Empty)) (x : T44) : Option (((List V_easementref08_Pair) × (List Int) × Unit) ⊕ Empty) :=
  cond (decide (x.2.2.2.2.1 < x.2.2.2.1))
    (ck (inB x.2.2.2.2.1 (x.2.2.1.length)) <|
    let v1 := x.1 ++ [(x.2.1, x.2.2.1.getD x.2.2.2.2.1.toNat (Ty.dflt (.int .i64)), ())]
    ck (roomB v1.length 19) <|
    g (v1, x.2.1, x.2.2.1, x.2.2.2.1, IntKind.i64.wrap (x.2.2.2.2.1 + (1 : Int)), ()))
    (some (.inl (x.1, x.2.2.1, ())))
noncomputable def k54l2 : LCtr := ⟨[4, 5, 81, 82, 83], (.cons (.own t_easementref08_Pair) (.cons (.val (.int .i64)) (.cons (.own (.int .i64)) (.cons (.val (.int .i64)) (.cons (.val (.int .i64)) .nil))))), [none, some 1], [1, 3, 24, 25], [⟨(.exit 4), [4, 81], (.cons (.own t_easementref08_Pair) (.cons (.own (.int .i64)) .nil)), [none, some 1]⟩], fun _ => [], lim flow_New_l36_step⟩
noncomputable def flow_New_l8_step (g : T45 → Option T46) (x : T45) : Option T46 :=
  cond (decide (x.2.2.2.2.1 < x.2.2.2.1))
    (Option.bind (point_Points_At (x.2.1.1, x.2.2.2.2)) fun y3 =>
    Option.bind (point_Points_Ends (x.2.1.1, x.2.2.2.2)) fun y4 =>
    cond (!y4.1)
      (let v1 := x.2.2.1 ++ [(x.2.2.2.2.1, IntKind.i64.wrap (x.2.2.2.2.1 + (1 : Int)), ())]
      ck (roomB v1.length 19) <|
      g (x.1, (x.2.1.1, (), ()), v1, x.2.2.2.1, IntKind.i64.wrap (x.2.2.2.2.1 + (1 : Int)), ()))
      (ck (inB y3.1 (x.1.2.2.2.2.2.2.1.length)) <|
      let v2 := (rdL t_api_Block x.1.2.2.2.2.2.2.1 y3.1).2.2.2.2.1
      Option.bind (lim flow_New_l22_step ((x.2.1.1, (), ()), ([] : List Int), v2, (v2.length : Int), (0 : Int), ())) fun y6 => out1 y6
        (fun z7 =>
          Option.bind (lim flow_New_l36_step (x.2.2.1, x.2.2.2.2.1, cpt (srt z7.1), ((cpt (srt z7.1)).length : Int), (0 : Int), ())) fun y8 => out1 y8
            (fun z9 =>
              g (x.1, (z7.2.1.1, (), ()), z9.1, x.2.2.2.1, IntKind.i64.wrap (x.2.2.2.2.1 + (1 : Int)), ())))))
    (some (.inl (x.2.2.1, x.1, (x.2.1.1, (), ()), ())))
noncomputable def k54l3 : LCtr := ⟨[1, 3, 4, 24, 25], (.cons (.ptr q2) (.cons (.ptr q61) (.cons (.own t_easementref08_Pair) (.cons (.val (.int .i64)) (.cons (.val (.int .i64)) .nil))))), [some 0, some 1, none], [3], [⟨(.exit 0), [4, 1, 3], (.cons (.own t_easementref08_Pair) (.cons (.ptr q2) (.cons (.ptr q61) .nil))), [none, some 0, some 1]⟩], fun _ => [], lim flow_New_l8_step⟩
theorem k54s : LsOK Tryz.prog Tryz.f20.ntmps (codeOf Tryz.f20) [(8, k54l3), (36, k54l2), (22, k54l1)] := loop_E 8 k54l3 k54 (loop_E 36 k54l2 k54 (loop_E 22 k54l1 k54 trivial (by kernel_rfl) rfl (fun g x => by kernel_rfl)) (by kernel_rfl) rfl (fun g x => by kernel_rfl)) (by kernel_rfl) rfl (fun g x => by kernel_rfl)
noncomputable def flow_New (x : (V_api_Body × Unit)) : Option ((Option V_flow_Flow) × Unit) :=
  Option.bind (point_New x) fun y1 =>
  Option.bind (point_Points_Len y1) fun y2 =>
  Option.bind (lim flow_New_l8_step (x.1, (y1.1, (), ()), ([] : List V_easementref08_Pair), y2.1, (0 : Int), ())) fun y10 => out1 y10
    (fun z11 =>
      Option.bind (point_Points_Len (z11.2.2.1.1, ())) fun y12 =>
      Option.bind (flow_least (y12.1, z11.1, ())) fun y13 =>
      some (some (z11.2.2.1.1, y13), ()))
noncomputable def flow_New_c : Ctr := ⟨(.cons t_api_Body .nil), (.cons (.ptr (.cons (.ptr (.cons (.lst (.int .i64)) .nil)) (.cons (.ptr (.cons (.int .i64) (.cons (.lst t_easementref08_Pair) (.cons (.lst (.int .i32)) (.cons (.lst (.int .i32)) (.cons (.lst (.int .i32)) (.cons (.lst (.int .i32)) .nil))))))) .nil))) .nil), flow_New, none⟩
theorem flow_New_ok : CtrOK Tryz.prog 20 flow_New_c := fun_E k54 Tryz.func20 k54s (by kernel_rfl) (fun x => by kernel_rfl)
/-! ### (*easement/flow.Flow).graph: function 60 -/
noncomputable def flow_Flow_graph (x : ((Option V_flow_Flow) × Unit)) : Option ((Option V_graph_Graph) × Unit) :=
  cond (x.1.isNone)
    (some ((none : Option V_graph_Graph), ()))
    (ck (x.1.isSome) <|
    some (x.1.getD (Ty.dflt (.cons (.ptr (.cons (.lst (.int .i64)) .nil)) (.cons (.ptr (.cons (.int .i64) (.cons (.lst t_easementref08_Pair) (.cons (.lst (.int .i32)) (.cons (.lst (.int .i32)) (.cons (.lst (.int .i32)) (.cons (.lst (.int .i32)) .nil))))))) .nil)))).2)
noncomputable def flow_Flow_graph_c : Ctr := ⟨(.cons (.ptr (.cons (.ptr (.cons (.lst (.int .i64)) .nil)) (.cons (.ptr (.cons (.int .i64) (.cons (.lst t_easementref08_Pair) (.cons (.lst (.int .i32)) (.cons (.lst (.int .i32)) (.cons (.lst (.int .i32)) (.cons (.lst (.int .i32)) .nil))))))) .nil))) .nil), (.cons (.ptr (.cons (.int .i64) (.cons (.lst t_easementref08_Pair) (.cons (.lst (.int .i32)) (.cons (.lst (.int .i32)) (.cons (.lst (.int .i32)) (.cons (.lst (.int .i32)) .nil))))))) .nil), flow_Flow_graph, none⟩
theorem flow_Flow_graph_ok : CtrOK Tryz.prog 60 flow_Flow_graph_c := fun_E (ls := []) k0 Tryz.func60 trivial (by kernel_rfl) (fun x => by kernel_rfl)
/-! ### (*easement/graph.Graph).Nodes: function 61 -/
noncomputable def graph_Graph_Nodes (x : ((Option V_graph_Graph) × Unit)) : Option (Int × Unit) :=
  cond (x.1.isNone)
    (some ((0 : Int), ()))
    (ck (x.1.isSome) <|
    some ((x.1.getD (Ty.dflt (.cons (.int .i64) (.cons (.lst t_easementref08_Pair) (.cons (.lst (.int .i32)) (.cons (.lst (.int .i32)) (.cons (.lst (.int .i32)) (.cons (.lst (.int .i32)) .nil)))))))).1, ()))
noncomputable def graph_Graph_Nodes_c : Ctr := ⟨(.cons (.ptr (.cons (.int .i64) (.cons (.lst t_easementref08_Pair) (.cons (.lst (.int .i32)) (.cons (.lst (.int .i32)) (.cons (.lst (.int .i32)) (.cons (.lst (.int .i32)) .nil))))))) .nil), (.cons (.int .i64) .nil), graph_Graph_Nodes, none⟩
theorem graph_Graph_Nodes_ok : CtrOK Tryz.prog 61 graph_Graph_Nodes_c := fun_E (ls := []) k0 Tryz.func61 trivial (by kernel_rfl) (fun x => by kernel_rfl)
/-! ### easement/graph.ints: function 114, at objects -/
noncomputable def graph_ints_p0_l6_step (g : ((List Int) × (List Int) × Int × Int × Unit) → Option (V_point_Points ⊕ Empty)) (x : ((List Int) × (List Int) × Int × Int × Unit)) : Option (V_point_Points ⊕ Empty) :=
  cond (decide (x.2.2.2.1 < x.2.2.1))
    (ck (inB x.2.2.2.1 (x.2.1.length)) <|
    ck (inB x.2.2.2.1 (x.1.length)) <|
    g (x.1.set x.2.2.2.1.toNat (IntKind.i64.wrap (rdL (.int .i32) x.2.1 x.2.2.2.1)), x.2.1, x.2.2.1, IntKind.i64.wrap (x.2.2.2.1 + (1 : Int)), ()))
    (some (.inl (x.1, ())))
noncomputable def k59l1 : LCtr := ⟨[3, 9, 10, 11], (.cons (.own (.int .i64)) (.cons (.val (.lst (.int .i32))) (.cons (.val (.int .i64)) (.cons (.val (.int .i64)) .nil)))), [some 0], [0, 3], [⟨(.exit 0), [3], (.cons (.own (.int .i64)) .nil), [some 0]⟩], fun _ => [], lim graph_ints_p0_l6_step⟩
theorem k59s : LsOK Tryz.prog Tryz.f114.ntmps (codeOf Tryz.f114) [(6, k59l1)] := loop_E 6 k59l1 k0 trivial (by kernel_rfl) rfl (fun g x => by kernel_rfl)
noncomputable def graph_ints_p0 (x : V_point_Points) : Option (V_point_Points ⊕ Empty) :=
  ck (decide (0 ≤ (x.1.length : Int)) && decide ((x.1.length : Int) ≤ (x.1.length : Int)) && decide ((x.1.length : Int) * ((10 : Nat) : Int) ≤ 35184372088832)) <|
  Option.bind (lim graph_ints_p0_l6_step (List.replicate (x.1.length : Int).toNat ((0 : Int) : Int), x.1, (x.1.length : Int), (0 : Int), ())) fun y1 => out1 y1
    (fun z2 =>
      some (.inl z2))
noncomputable def k59L : LCtr := ⟨[0], (.cons (.val (.lst (.int .i32))) .nil), [], [], [⟨.ret, [2], (.cons (.own (.int .i64)) .nil), [none]⟩], fun _ => [], graph_ints_p0⟩
noncomputable def graph_ints_p0_c : PI := mkPI Tryz.f114 k59L
theorem graph_ints_p0_ok : PIOK Tryz.prog 114 graph_ints_p0_c := proc_E k0 Tryz.func114 k59s (by kernel_rfl) (fun x => by kernel_rfl)
/-! ### (*easement/graph.Graph).Out: function 86, at objects -/
noncomputable def k60 : FE Tryz.prog := ⟨[(61, graph_Graph_Nodes_c)], [(114, [graph_ints_p0_c])], [], [], ⟨graph_Graph_Nodes_ok, trivial⟩, ⟨⟨graph_ints_p0_ok, trivial⟩, trivial⟩, trivial⟩
noncomputable def graph_Graph_Out_p0 (x : ((Option V_graph_Graph) × Int × Unit)) : Option (V_point_Points ⊕ Empty) :=
  cond (!(decide (x.2.1 < (0 : Int))))
    (Option.bind (graph_Graph_Nodes (x.1, ())) fun y1 =>
    cond (decide (x.2.1 ≥ y1.1))
      (some (.inl (([] : List Int), ())))
      (ck (x.1.isSome) <|
      ck (x.1.isSome) <|
      let v1 := (x.1.getD (Ty.dflt (.cons (.int .i64) (.cons (.lst t_easementref08_Pair) (.cons (.lst (.int .i32)) (.cons (.lst (.int .i32)) (.cons (.lst (.int .i32)) (.cons (.lst (.int .i32)) .nil)))))))).2.2.2.2.1
      ck (inB x.2.1 (v1.length)) <|
      ck (x.1.isSome) <|
      let v2 := IntKind.i64.wrap (x.2.1 + (1 : Int))
      let v3 := (x.1.getD (Ty.dflt (.cons (.int .i64) (.cons (.lst t_easementref08_Pair) (.cons (.lst (.int .i32)) (.cons (.lst (.int .i32)) (.cons (.lst (.int .i32)) (.cons (.lst (.int .i32)) .nil)))))))).2.2.2.2.1
      ck (inB v2 (v3.length)) <|
      let v4 := (x.1.getD (Ty.dflt (.cons (.int .i64) (.cons (.lst t_easementref08_Pair) (.cons (.lst (.int .i32)) (.cons (.lst (.int .i32)) (.cons (.lst (.int .i32)) (.cons (.lst (.int .i32)) .nil)))))))).2.2.1
      ck (decide (0 ≤ (rdL (.int .i32) v1 x.2.1)) && decide ((rdL (.int .i32) v1 x.2.1) ≤ (rdL (.int .i32) v3 v2)) && decide ((rdL (.int .i32) v3 v2) ≤ v4.length)) <|
      Option.bind (graph_ints_p0 ((v4.take (rdL (.int .i32) v3 v2).toNat).drop (rdL (.int .i32) v1 x.2.1).toNat, ())) fun y2 => out1 y2
        (fun z3 =>
          some (.inl z3))))
    (some (.inl (([] : List Int), ())))
noncomputable def k60L : LCtr := ⟨[0, 1], (.cons (.val (.ptr (.cons (.int .i64) (.cons (.lst t_easementref08_Pair) (.cons (.lst (.int .i32)) (.cons (.lst (.int .i32)) (.cons (.lst (.int .i32)) (.cons (.lst (.int .i32)) .nil)))))))) (.cons (.val (.int .i64)) .nil)), [], [], [⟨.ret, [4], (.cons (.own (.int .i64)) .nil), [none]⟩], fun _ => [], graph_Graph_Out_p0⟩
noncomputable def graph_Graph_Out_p0_c : PI := mkPI Tryz.f86 k60L
theorem graph_Graph_Out_p0_ok : PIOK Tryz.prog 86 graph_Graph_Out_p0_c := proc_E (ls := []) k60 Tryz.func86 trivial (by kernel_rfl) (fun x => by kernel_rfl)
/-! ### (*easement/graph.Graph).Next: function 62 -/
noncomputable def k61 : FE Tryz.prog := ⟨[], [(86, [graph_Graph_Out_p0_c])], [], [], trivial, ⟨⟨graph_Graph_Out_p0_ok, trivial⟩, trivial⟩, trivial⟩
noncomputable def graph_Graph_Next_l6_step (g : ((Option V_graph_Graph) × (List Int) × Int × Int × Unit) → Option (V_point_Points ⊕ Empty)) (x : ((Option V_graph_Graph) × (List Int) × Int × Int × Unit)) : Option (V_point_Points ⊕ Empty) :=
  cond (decide (x.2.2.2.1 < x.2.2.1))
    (ck (inB x.2.2.2.1 (x.2.1.length)) <|
    ck (x.1.isSome) <|
    let v1 := x.2.1.getD x.2.2.2.1.toNat (Ty.dflt (.int .i64))
    let v2 := (x.1.getD (Ty.dflt (.cons (.int .i64) (.cons (.lst t_easementref08_Pair) (.cons (.lst (.int .i32)) (.cons (.lst (.int .i32)) (.cons (.lst (.int .i32)) (.cons (.lst (.int .i32)) .nil)))))))).2.1
    ck (inB v1 (v2.length)) <|
    ck (inB x.2.2.2.1 (x.2.1.length)) <|
    g (x.1, x.2.1.set x.2.2.2.1.toNat (rdL t_easementref08_Pair v2 v1).2.1, x.2.2.1, IntKind.i64.wrap (x.2.2.2.1 + (1 : Int)), ()))
    (some (.inl (x.2.1, ())))
noncomputable def k61l1 : LCtr := ⟨[0, 5, 12, 13], (.cons (.val (.ptr (.cons (.int .i64) (.cons (.lst t_easementref08_Pair) (.cons (.lst (.int .i32)) (.cons (.lst (.int .i32)) (.cons (.lst (.int .i32)) (.cons (.lst (.int .i32)) .nil)))))))) (.cons (.own (.int .i64)) (.cons (.val (.int .i64)) (.cons (.val (.int .i64)) .nil)))), [some 0], [5], [⟨(.exit 0), [5], (.cons (.own (.int .i64)) .nil), [some 0]⟩], fun _ => [(11, .sf 0)], lim graph_Graph_Next_l6_step⟩
theorem k61s : LsOK Tryz.prog Tryz.f62.ntmps (codeOf Tryz.f62) [(6, k61l1)] := loop_E 6 k61l1 k61 trivial (by kernel_rfl) rfl (fun g x => by kernel_rfl)
noncomputable def graph_Graph_Next (x : ((Option V_graph_Graph) × Int × Unit)) : Option ((List Int) × Unit) :=
  Option.bind (graph_Graph_Out_p0 x) fun y1 => out1 y1
    (fun z2 =>
      Option.bind (lim graph_Graph_Next_l6_step (x.1, z2.1, (z2.1.length : Int), (0 : Int), ())) fun y3 => out1 y3
        (fun z4 =>
          some z4))
noncomputable def graph_Graph_Next_c : Ctr := ⟨(.cons (.ptr (.cons (.int .i64) (.cons (.lst t_easementref08_Pair) (.cons (.lst (.int .i32)) (.cons (.lst (.int .i32)) (.cons (.lst (.int .i32)) (.cons (.lst (.int .i32)) .nil))))))) (.cons (.int .i64) .nil)), (.cons (.lst (.int .i64)) .nil), graph_Graph_Next, none⟩
theorem graph_Graph_Next_ok : CtrOK Tryz.prog 62 graph_Graph_Next_c := fun_E k61 Tryz.func62 k61s (by kernel_rfl) (fun x => by kernel_rfl)
/-! ### (*easement/flow.Flow).Next: function 26 -/
noncomputable def k62 : FE Tryz.prog := ⟨[(60, flow_Flow_graph_c), (62, graph_Graph_Next_c)], [], [], [], ⟨flow_Flow_graph_ok, graph_Graph_Next_ok, trivial⟩, trivial, trivial⟩
noncomputable def flow_Flow_Next (x : ((Option V_flow_Flow) × Int × Unit)) : Option ((List Int) × Unit) :=
  Option.bind (flow_Flow_graph (x.1, ())) fun y1 =>
  Option.bind (graph_Graph_Next (y1.1, x.2)) fun y2 =>
  some y2
noncomputable def flow_Flow_Next_c : Ctr := ⟨(.cons (.ptr (.cons (.ptr (.cons (.lst (.int .i64)) .nil)) (.cons (.ptr (.cons (.int .i64) (.cons (.lst t_easementref08_Pair) (.cons (.lst (.int .i32)) (.cons (.lst (.int .i32)) (.cons (.lst (.int .i32)) (.cons (.lst (.int .i32)) .nil))))))) .nil))) (.cons (.int .i64) .nil)), (.cons (.lst (.int .i64)) .nil), flow_Flow_Next, none⟩
theorem flow_Flow_Next_ok : CtrOK Tryz.prog 26 flow_Flow_Next_c := fun_E (ls := []) k62 Tryz.func26 trivial (by kernel_rfl) (fun x => by kernel_rfl)
/-! ### easement/easementref01.Same: function 17 -/
noncomputable def ref01_Same_l8_step (g : ((List Int) × (List Int) × Int × Unit) → Option ((Bool × Unit) ⊕ (Unit ⊕ Empty))) (x : ((List Int) × (List Int) × Int × Unit)) : Option ((Bool × Unit) ⊕ (Unit ⊕ Empty)) :=
  cond (decide (x.2.2.1 < (x.1.length : Int)))
    (ck (inB x.2.2.1 (x.1.length)) <|
    ck (inB x.2.2.1 (x.2.1.length)) <|
    cond ((rdL (.int .i64) x.1 x.2.2.1) != (rdL (.int .i64) x.2.1 x.2.2.1))
      (some (.inl (false, ())))
      (g (x.1, x.2.1, IntKind.i64.wrap (x.2.2.1 + (1 : Int)), ())))
    (some (.inr (.inl ())))
noncomputable def k63l1 : LCtr := ⟨[0, 1, 5], (.cons (.val (.lst (.int .i64))) (.cons (.val (.lst (.int .i64))) (.cons (.val (.int .i64)) .nil))), [], [], [⟨.ret, [4], (.cons (.val .bool) .nil), []⟩, ⟨(.exit 0), [], .nil, []⟩], fun _ => [], lim ref01_Same_l8_step⟩
theorem k63s : LsOK Tryz.prog Tryz.f17.ntmps (codeOf Tryz.f17) [(8, k63l1)] := loop_E 8 k63l1 k0 trivial (by kernel_rfl) rfl (fun g x => by kernel_rfl)
noncomputable def ref01_Same (x : ((List Int) × (List Int) × Unit)) : Option (Bool × Unit) :=
  cond ((x.1.length : Int) != (x.2.1.length : Int))
    (some (false, ()))
    (Option.bind (lim ref01_Same_l8_step (x.1, x.2.1, (0 : Int), ())) fun y1 => out2 y1
      (fun z2 =>
        some z2)
      (fun z3 =>
        some (true, ())))
noncomputable def ref01_Same_c : Ctr := ⟨(.cons (.lst (.int .i64)) (.cons (.lst (.int .i64)) .nil)), (.cons .bool .nil), ref01_Same, none⟩
theorem ref01_Same_ok : CtrOK Tryz.prog 17 ref01_Same_c := fun_E k0 Tryz.func17 k63s (by kernel_rfl) (fun x => by kernel_rfl)
/-! ### (*easement/flow.Flow).Order: function 21 -/
noncomputable def k64 : FE Tryz.prog := ⟨[(60, flow_Flow_graph_c), (61, graph_Graph_Nodes_c), (62, graph_Graph_Next_c)], [], [], [], ⟨flow_Flow_graph_ok, graph_Graph_Nodes_ok, graph_Graph_Next_ok, trivial⟩, trivial, trivial⟩
noncomputable def flow_Flow_Order_l24_step (g : T47 → Option T48) (x : T47) : Option T48 :=
  cond (decide (((x.2.2.1.getD x.2.2.2.1 (Ty.dflt t_flow_frame)).2.1.length : Int) > (0 : Int)))
    (let v1 := (x.2.2.1.getD x.2.2.2.1 (Ty.dflt t_flow_frame)).2.1
    ck (inB (0 : Int) (v1.length)) <|
    let v2 := (x.2.2.1.getD x.2.2.2.1 (Ty.dflt t_flow_frame)).2.1
    ck (decide (0 ≤ (1 : Int)) && decide ((1 : Int) ≤ v2.length)) <|
    let v3 := rdL (.int .i64) v1 (0 : Int)
    ck (inB v3 (x.2.1.length)) <|
    cond ((x.2.1.getD v3.toNat (Ty.dflt (.int .i64))) == (0 : Int))
      (ck (inB v3 (x.2.1.length)) <|
      Option.bind (graph_Graph_Next (x.1, v3, ())) fun y5 =>
      let v4 := x.2.2.1.getD x.2.2.2.1 (Ty.dflt t_flow_frame)
      let v5 := (x.2.2.1.set x.2.2.2.1 (v4.1, v2.drop (1 : Int).toNat, v4.2.2)) ++ [(v3, y5)]
      ck (roomB v5.length 35) <|
      some (.inl (v5, x.2.1.set v3.toNat (1 : Int), ())))
      (ck (Nat.beq x.2.2.2.1 x.2.2.2.1) <|
      let v6 := x.2.2.1.getD x.2.2.2.1 (Ty.dflt t_flow_frame)
      g (x.1, x.2.1, x.2.2.1.set x.2.2.2.1 (v6.1, v2.drop (1 : Int).toNat, v6.2.2), x.2.2.2)))
    (some (.inr (.inl (x.2.2.1, x.2.1, ()))))
noncomputable def k64l1 : LCtr := ⟨[3, 4, 7, 8], (.cons (.val (.ptr (.cons (.int .i64) (.cons (.lst t_easementref08_Pair) (.cons (.lst (.int .i32)) (.cons (.lst (.int .i32)) (.cons (.lst (.int .i32)) (.cons (.lst (.int .i32)) .nil)))))))) (.cons (.own (.int .i64)) (.cons (.own t_flow_frame) (.cons .gi .nil)))), [some 0, some 1], [3, 4, 5, 8], [⟨(.exit 3), [7, 4], (.cons (.own t_flow_frame) (.cons (.own (.int .i64)) .nil)), [none, some 0]⟩, ⟨(.exit 4), [7, 4], (.cons (.own t_flow_frame) (.cons (.own (.int .i64)) .nil)), [some 1, some 0]⟩], fun x => [(8, .bp 1 (x.2.2.2.1) 0)], lim flow_Flow_Order_l24_step⟩
noncomputable def flow_Flow_Order_l20_step (g : T49 → Option T50) (x : T49) : Option T50 :=
  cond (decide ((x.2.2.2.1.length : Int) > (0 : Int)))
    (let v1 := IntKind.i64.wrap ((x.2.2.2.1.length : Int) - (1 : Int))
    ck (inB v1 (x.2.2.2.1.length)) <|
    ck (Nat.beq v1.toNat v1.toNat) <|
    Option.bind (lim flow_Flow_Order_l24_step (x.1, x.2.1, x.2.2.2.1, v1.toNat, ())) fun y6 => out2 y6
      (fun z7 =>
        g (x.1, z7.2.1, x.2.2.1, z7.1, ()))
      (fun z8 =>
        let v2 := x.2.2.1 ++ [(z8.1.getD v1.toNat (Ty.dflt t_flow_frame)).1]
        ck (roomB v2.length 10) <|
        let v3 := IntKind.i64.wrap ((z8.1.length : Int) - (1 : Int))
        ck (decide (0 ≤ v3) && decide (v3 ≤ z8.1.length)) <|
        g (x.1, z8.2.1, v2, z8.1.take v3.toNat, ())))
    (some (.inl (x.2.2.1, x.2.1, x.2.2.2)))
noncomputable def k64l2 : LCtr := ⟨[3, 4, 5, 7], (.cons (.val (.ptr (.cons (.int .i64) (.cons (.lst t_easementref08_Pair) (.cons (.lst (.int .i32)) (.cons (.lst (.int .i32)) (.cons (.lst (.int .i32)) (.cons (.lst (.int .i32)) .nil)))))))) (.cons (.own (.int .i64)) (.cons (.own (.int .i64)) (.cons (.own t_flow_frame) .nil)))), [some 0, none, none], [3, 4, 16, 17], [⟨(.exit 2), [5, 4, 7], (.cons (.own (.int .i64)) (.cons (.own (.int .i64)) (.cons (.own t_flow_frame) .nil))), [none, some 0, none]⟩], fun _ => [], lim flow_Flow_Order_l20_step⟩
noncomputable def flow_Flow_Order_l10_step (g : T51 → Option (((List Int) × (List Int) × Unit) ⊕ Empty)) (x : T51) : Option (((List Int) × (List Int) × Unit) ⊕ Empty) :=
  cond (decide (x.2.2.2.2.1 < x.2.2.2.1))
    (ck (inB x.2.2.2.2.1 (x.2.1.length)) <|
    cond (decide ((x.2.1.getD x.2.2.2.2.1.toNat (Ty.dflt (.int .i64))) > (0 : Int)))
      (g (x.1, x.2.1, x.2.2.1, x.2.2.2.1, IntKind.i64.wrap (x.2.2.2.2.1 + (1 : Int)), ()))
      (ck (inB x.2.2.2.2.1 (x.2.1.length)) <|
      Option.bind (graph_Graph_Next (x.1, x.2.2.2.2)) fun y4 =>
      Option.bind (lim flow_Flow_Order_l20_step (x.1, x.2.1.set x.2.2.2.2.1.toNat (1 : Int), x.2.2.1, [(x.2.2.2.2.1, y4)], ())) fun y9 => out1 y9
        (fun z10 =>
          g (x.1, z10.2.1, z10.1, x.2.2.2.1, IntKind.i64.wrap (x.2.2.2.2.1 + (1 : Int)), ()))))
    (some (.inl (x.2.2.1, x.2.1, ())))
noncomputable def k64l3 : LCtr := ⟨[3, 4, 5, 16, 17], (.cons (.val (.ptr (.cons (.int .i64) (.cons (.lst t_easementref08_Pair) (.cons (.lst (.int .i32)) (.cons (.lst (.int .i32)) (.cons (.lst (.int .i32)) (.cons (.lst (.int .i32)) .nil)))))))) (.cons (.own (.int .i64)) (.cons (.own (.int .i64)) (.cons (.val (.int .i64)) (.cons (.val (.int .i64)) .nil))))), [some 0, none], [], [⟨(.exit 0), [5, 4], (.cons (.own (.int .i64)) (.cons (.own (.int .i64)) .nil)), [none, some 0]⟩], fun _ => [], lim flow_Flow_Order_l10_step⟩
theorem k64s : LsOK Tryz.prog Tryz.f21.ntmps (codeOf Tryz.f21) [(10, k64l3), (20, k64l2), (24, k64l1)] := loop_E 10 k64l3 k64 (loop_E 20 k64l2 k64 (loop_E 24 k64l1 k64 trivial (by kernel_rfl) rfl (fun g x => by kernel_rfl)) (by kernel_rfl) rfl (fun g x => by kernel_rfl)) (by kernel_rfl) rfl (fun g x => by kernel_rfl)
noncomputable def flow_Flow_Order (x : ((Option V_flow_Flow) × Unit)) : Option ((List Int) × Unit) :=
  Option.bind (flow_Flow_graph x) fun y1 =>
  Option.bind (graph_Graph_Nodes y1) fun y2 =>
  ck (decide (0 ≤ y2.1) && decide (y2.1 ≤ y2.1) && decide (y2.1 * ((10 : Nat) : Int) ≤ 35184372088832)) <|
  Option.bind (graph_Graph_Nodes y1) fun y3 =>
  Option.bind (lim flow_Flow_Order_l10_step (y1.1, List.replicate y2.1.toNat ((0 : Int) : Int), ([] : List Int), y3.1, (0 : Int), ())) fun y11 => out1 y11
    (fun z12 =>
      some (z12.1, ()))
noncomputable def flow_Flow_Order_c : Ctr := ⟨(.cons (.ptr (.cons (.ptr (.cons (.lst (.int .i64)) .nil)) (.cons (.ptr (.cons (.int .i64) (.cons (.lst t_easementref08_Pair) (.cons (.lst (.int .i32)) (.cons (.lst (.int .i32)) (.cons (.lst (.int .i32)) (.cons (.lst (.int .i32)) .nil))))))) .nil))) .nil), (.cons (.lst (.int .i64)) .nil), flow_Flow_Order, none⟩
theorem flow_Flow_Order_ok : CtrOK Tryz.prog 21 flow_Flow_Order_c := fun_E k64 Tryz.func21 k64s (by kernel_rfl) (fun x => by kernel_rfl)
/-! ### (*easement/flow.Flow).Points: function 24 -/
noncomputable def flow_Flow_Points (x : ((Option V_flow_Flow) × Unit)) : Option ((Option V_point_Points) × Unit) :=
  cond (x.1.isNone)
    (some ((none : Option V_point_Points), ()))
    (ck (x.1.isSome) <|
    some ((x.1.getD (Ty.dflt (.cons (.ptr (.cons (.lst (.int .i64)) .nil)) (.cons (.ptr (.cons (.int .i64) (.cons (.lst t_easementref08_Pair) (.cons (.lst (.int .i32)) (.cons (.lst (.int .i32)) (.cons (.lst (.int .i32)) (.cons (.lst (.int .i32)) .nil))))))) .nil)))).1, ()))
noncomputable def flow_Flow_Points_c : Ctr := ⟨(.cons (.ptr (.cons (.ptr (.cons (.lst (.int .i64)) .nil)) (.cons (.ptr (.cons (.int .i64) (.cons (.lst t_easementref08_Pair) (.cons (.lst (.int .i32)) (.cons (.lst (.int .i32)) (.cons (.lst (.int .i32)) (.cons (.lst (.int .i32)) .nil))))))) .nil))) .nil), (.cons (.ptr (.cons (.lst (.int .i64)) .nil)) .nil), flow_Flow_Points, none⟩
theorem flow_Flow_Points_ok : CtrOK Tryz.prog 24 flow_Flow_Points_c := fun_E (ls := []) k0 Tryz.func24 trivial (by kernel_rfl) (fun x => by kernel_rfl)
/-! ### easement/easementlaw23.awake: function 19 -/
noncomputable def k66 : FE Tryz.prog := ⟨[(20, flow_New_c), (26, flow_Flow_Next_c), (17, ref01_Same_c), (21, flow_Flow_Order_c), (24, flow_Flow_Points_c), (25, point_Points_Len_c)], [], [], [], ⟨flow_New_ok, flow_Flow_Next_ok, ref01_Same_ok, flow_Flow_Order_ok, flow_Flow_Points_ok, point_Points_Len_ok, trivial⟩, trivial, trivial⟩
noncomputable def law23_awake (x : Unit) : Option (Bool × Unit) :=
  Option.bind (flow_New (((1 : Int), (1 : Int), ([] : List V_easementref08_Pair), [(([] : List V_api_Slot), ())], ([] : List V_api_Slot), ([] : List V_api_Sig), [([((0 : Int), (0 : Int), (0 : Int), (0 : Int), false, ())], (1 : Int), (0 : Int), (0 : Int), [(0 : Int)], ([] : List Int), ([] : List Int), ())], ()), ())) fun y1 =>
  Option.bind (flow_Flow_Next (y1.1, (0 : Int), ())) fun y2 =>
  Option.bind (ref01_Same (y2.1, [(1 : Int)], ())) fun y3 =>
  cond (y3.1)
    (Option.bind (flow_Flow_Next (y1.1, (1 : Int), ())) fun y4 =>
    Option.bind (ref01_Same (y4.1, [(0 : Int)], ())) fun y5 =>
    cond (y5.1)
      (Option.bind (flow_Flow_Order y1) fun y6 =>
      Option.bind (ref01_Same (y6.1, [(1 : Int), (0 : Int)], ())) fun y7 =>
      cond (y7.1)
        (Option.bind (flow_Flow_Points y1) fun y8 =>
        Option.bind (point_Points_Len y8) fun y9 =>
        some (y9.1 == (2 : Int), ()))
        (some (false, ())))
      (some (false, ())))
    (some (false, ()))
noncomputable def law23_awake_c : Ctr := ⟨.nil, (.cons .bool .nil), law23_awake, none⟩
theorem law23_awake_ok : CtrOK Tryz.prog 19 law23_awake_c := fun_E (ls := []) k66 Tryz.func19 trivial (by kernel_rfl) (fun x => by kernel_rfl)
/-! ### easement/easementref21.head: function 99 -/
noncomputable def ref21_head_l16_step (g : (V_api_Body × V_valid_Fault × Int × Unit) → Option T52) (x : (V_api_Body × V_valid_Fault × Int × Unit)) : Option T52 :=
  cond (decide (x.2.2.1 < (x.1.2.2.1.length : Int)))
    (ck (inB x.2.2.1 (x.1.2.2.1.length)) <|
    let v1 := rdL t_easementref08_Pair x.1.2.2.1 x.2.2.1
    cond (cond (cond (cond (decide (v1.1 < (0 : Int))) true (decide (v1.1 ≥ x.1.1))) true (decide (v1.2.1 < (0 : Int)))) true (decide (v1.2.1 ≥ x.1.1)))
      (some (.inl (x.1, ((7 : Int), (1 : Int), x.2.2.1, (0 : Int), ()), ())))
      (g (x.1, x.2.1, IntKind.i64.wrap (x.2.2.1 + (1 : Int)), ())))
    (some (.inr (.inl (x.1, x.2.1, ()))))
noncomputable def k67l1 : LCtr := ⟨[1, 2, 3], (.cons (.ptr q2) (.cons (.ptr q46) (.cons (.val (.int .i64)) .nil))), [some 0, some 1], [2], [⟨.ret, [1, 2], (.cons (.ptr q2) (.cons (.ptr q46) .nil)), [some 0, some 1]⟩, ⟨(.exit 0), [1, 2], (.cons (.ptr q2) (.cons (.ptr q46) .nil)), [some 0, some 1]⟩], fun _ => [], lim ref21_head_l16_step⟩
theorem k67s : LsOK Tryz.prog Tryz.f99.ntmps (codeOf Tryz.f99) [(16, k67l1)] := loop_E 16 k67l1 k0 trivial (by kernel_rfl) rfl (fun g x => by kernel_rfl)
noncomputable def ref21_head (x : (V_api_Body × Unit)) : Option (V_valid_Fault × Unit) :=
  cond (cond (decide (x.1.1 < (1 : Int))) true (decide (x.1.2.1 < x.1.1)))
    (some (((7 : Int), (0 : Int), (0 : Int), (0 : Int), ()), ()))
    (cond (decide (x.1.2.1 > (65536 : Int)))
      (some (((6 : Int), (0 : Int), (0 : Int), (0 : Int), ()), ()))
      (cond (decide ((x.1.2.2.1.length : Int) > (65536 : Int)))
        (some (((6 : Int), (1 : Int), (0 : Int), (0 : Int), ()), ()))
        (Option.bind (lim ref21_head_l16_step (x.1, ((0 : Int), (0 : Int), (0 : Int), (0 : Int), ()), (0 : Int), ())) fun y1 => out2 y1
          (fun z2 =>
            some z2.2)
          (fun z3 =>
            some (((0 : Int), (0 : Int), (0 : Int), (0 : Int), ()), ())))))
noncomputable def ref21_head_c : Ctr := ⟨(.cons t_api_Body .nil), (.cons t_valid_Fault .nil), ref21_head, none⟩
theorem ref21_head_ok : CtrOK Tryz.prog 99 ref21_head_c := fun_E k0 Tryz.func99 k67s (by kernel_rfl) (fun x => by kernel_rfl)
/-! ### easement/easementref15.Check: function 145 -/
noncomputable def ref15_Check_l8_step (g : (V_api_Type × Int × Int × Unit) → Option ((Int × V_api_Type × Unit) ⊕ ((V_api_Type × Unit) ⊕ Empty))) (x : (V_api_Type × Int × Int × Unit)) : Option ((Int × V_api_Type × Unit) ⊕ ((V_api_Type × Unit) ⊕ Empty)) :=
  cond (decide (x.2.2.1 < (x.1.1.length : Int)))
    (ck (inB x.2.2.1 (x.1.1.length)) <|
    let v1 := decide ((rdL t_api_Slot x.1.1 x.2.2.1).1 < (0 : Int))
    ck ((inB x.2.2.1 (x.1.1.length)) || !(!v1)) <|
    cond (cond v1 true (decide ((rdL t_api_Slot x.1.1 x.2.2.1).1 ≥ x.2.1)))
      (some (.inl ((7 : Int), x.1, ())))
      (g (x.1, x.2.1, IntKind.i64.wrap (x.2.2.1 + (1 : Int)), ())))
    (some (.inr (.inl (x.1, ()))))
noncomputable def k68l1 : LCtr := ⟨[2, 1, 5], (.cons (.ptr (.cons (.val (.lst t_api_Slot)) .nil)) (.cons (.val (.int .i64)) (.cons (.val (.int .i64)) .nil))), [some 0], [], [⟨.ret, [4, 2], (.cons (.val (.int .i64)) (.cons (.ptr (.cons (.val (.lst t_api_Slot)) .nil)) .nil)), [some 0]⟩, ⟨(.exit 0), [2], (.cons (.ptr (.cons (.val (.lst t_api_Slot)) .nil)) .nil), [some 0]⟩], fun _ => [], lim ref15_Check_l8_step⟩
theorem k68s : LsOK Tryz.prog Tryz.f145.ntmps (codeOf Tryz.f145) [(8, k68l1)] := loop_E 8 k68l1 k0 trivial (by kernel_rfl) rfl (fun g x => by kernel_rfl)
noncomputable def ref15_Check (x : (V_api_Type × Int × Unit)) : Option (Int × Unit) :=
  cond (decide ((x.1.1.length : Int) > (16 : Int)))
    (some ((6 : Int), ()))
    (Option.bind (lim ref15_Check_l8_step (x.1, x.2.1, (0 : Int), ())) fun y1 => out2 y1
      (fun z2 =>
        some (z2.1, ()))
      (fun z3 =>
        some ((0 : Int), ())))
noncomputable def ref15_Check_c : Ctr := ⟨(.cons t_api_Type (.cons (.int .i64) .nil)), (.cons (.int .i64) .nil), ref15_Check, none⟩
theorem ref15_Check_ok : CtrOK Tryz.prog 145 ref15_Check_c := fun_E k0 Tryz.func145 k68s (by kernel_rfl) (fun x => by kernel_rfl)
/-! ### easement/easementref15.Shape: function 90 -/
noncomputable def ref15_Shape_l8_step (g : (V_api_Type × V_api_Type × Int × Unit) → Option T53) (x : (V_api_Type × V_api_Type × Int × Unit)) : Option T53 :=
  cond (decide (x.2.2.1 < (x.1.1.length : Int)))
    (ck (inB x.2.2.1 (x.1.1.length)) <|
    ck (inB x.2.2.1 (x.2.1.1.length)) <|
    cond (!((rdL t_api_Slot x.1.1 x.2.2.1).2.1 == (rdL t_api_Slot x.2.1.1 x.2.2.1).2.1))
      (some (.inl (false, x.1, x.2.1, ())))
      (g (x.1, x.2.1, IntKind.i64.wrap (x.2.2.1 + (1 : Int)), ())))
    (some (.inr (.inl (x.1, x.2.1, ()))))
noncomputable def k69l1 : LCtr := ⟨[2, 3, 5], (.cons (.ptr (.cons (.val (.lst t_api_Slot)) .nil)) (.cons (.ptr (.cons (.val (.lst t_api_Slot)) .nil)) (.cons (.val (.int .i64)) .nil))), [some 0, some 1], [], [⟨.ret, [4, 2, 3], (.cons (.val .bool) (.cons (.ptr (.cons (.val (.lst t_api_Slot)) .nil)) (.cons (.ptr (.cons (.val (.lst t_api_Slot)) .nil)) .nil))), [some 0, some 1]⟩, ⟨(.exit 0), [2, 3], (.cons (.ptr (.cons (.val (.lst t_api_Slot)) .nil)) (.cons (.ptr (.cons (.val (.lst t_api_Slot)) .nil)) .nil)), [some 0, some 1]⟩], fun _ => [], lim ref15_Shape_l8_step⟩
theorem k69s : LsOK Tryz.prog Tryz.f90.ntmps (codeOf Tryz.f90) [(8, k69l1)] := loop_E 8 k69l1 k0 trivial (by kernel_rfl) rfl (fun g x => by kernel_rfl)
noncomputable def ref15_Shape (x : (V_api_Type × V_api_Type × Unit)) : Option (Bool × Unit) :=
  cond ((x.1.1.length : Int) != (x.2.1.1.length : Int))
    (some (false, ()))
    (Option.bind (lim ref15_Shape_l8_step (x.1, x.2.1, (0 : Int), ())) fun y1 => out2 y1
      (fun z2 =>
        some (z2.1, ()))
      (fun z3 =>
        some (true, ())))
noncomputable def ref15_Shape_c : Ctr := ⟨(.cons t_api_Type (.cons t_api_Type .nil)), (.cons .bool .nil), ref15_Shape, none⟩
theorem ref15_Shape_ok : CtrOK Tryz.prog 90 ref15_Shape_c := fun_E k0 Tryz.func90 k69s (by kernel_rfl) (fun x => by kernel_rfl)
/-! ### easement/easementref17.Check: function 146 -/
noncomputable def k70 : FE Tryz.prog := ⟨[(145, ref15_Check_c)], [], [], [], ⟨ref15_Check_ok, trivial⟩, trivial, trivial⟩
noncomputable def ref17_Check_l12_step (g : (V_api_Sig × Int × Unit) → Option ((Int × V_api_Sig × Unit) ⊕ ((V_api_Sig × Unit) ⊕ Empty))) (x : (V_api_Sig × Int × Unit)) : Option ((Int × V_api_Sig × Unit) ⊕ ((V_api_Sig × Unit) ⊕ Empty)) :=
  cond (decide (x.2.1 < (x.1.2.1.length : Int)))
    (ck (inB x.2.1 (x.1.2.1.length)) <|
    let v1 := rdL t_easementref08_Pair x.1.2.1 x.2.1
    cond (cond (cond (cond (decide (v1.1 < (0 : Int))) true (decide (v1.1 ≥ x.1.1))) true (decide (v1.2.1 < (0 : Int)))) true (decide (v1.2.1 ≥ x.1.1)))
      (some (.inl ((7 : Int), x.1, ())))
      (g (x.1, IntKind.i64.wrap (x.2.1 + (1 : Int)), ())))
    (some (.inr (.inl (x.1, ()))))
noncomputable def k70l1 : LCtr := ⟨[1, 3], (.cons (.ptr q1) (.cons (.val (.int .i64)) .nil)), [some 0], [1], [⟨.ret, [2, 1], (.cons (.val (.int .i64)) (.cons (.ptr q1) .nil)), [some 0]⟩, ⟨(.exit 0), [1], (.cons (.ptr q1) .nil), [some 0]⟩], fun _ => [], lim ref17_Check_l12_step⟩
noncomputable def ref17_Check_l24_step (g : (V_api_Sig × Int × Unit) → Option ((Int × V_api_Sig × Unit) ⊕ ((V_api_Sig × Unit) ⊕ Empty))) (x : (V_api_Sig × Int × Unit)) : Option ((Int × V_api_Sig × Unit) ⊕ ((V_api_Sig × Unit) ⊕ Empty)) :=
  cond (decide (x.2.1 < (x.1.2.2.1.length : Int)))
    (ck (inB x.2.1 (x.1.2.2.1.length)) <|
    Option.bind (ref15_Check (rdL t_api_Type x.1.2.2.1 x.2.1, x.1.1, ())) fun y4 =>
    cond (y4.1 != (0 : Int))
      (some (.inl (y4.1, x.1, ())))
      (g (x.1, IntKind.i64.wrap (x.2.1 + (1 : Int)), ())))
    (some (.inr (.inl (x.1, ()))))
noncomputable def k70l2 : LCtr := ⟨[1, 5], (.cons (.ptr q1) (.cons (.val (.int .i64)) .nil)), [some 0], [1], [⟨.ret, [2, 1], (.cons (.val (.int .i64)) (.cons (.ptr q1) .nil)), [some 0]⟩, ⟨(.exit 2), [1], (.cons (.ptr q1) .nil), [some 0]⟩], fun _ => [], lim ref17_Check_l24_step⟩
theorem k70s : LsOK Tryz.prog Tryz.f146.ntmps (codeOf Tryz.f146) [(24, k70l2), (12, k70l1)] := loop_E 24 k70l2 k70 (loop_E 12 k70l1 k70 trivial (by kernel_rfl) rfl (fun g x => by kernel_rfl)) (by kernel_rfl) rfl (fun g x => by kernel_rfl)
noncomputable def ref17_Check (x : (V_api_Sig × Unit)) : Option (Int × Unit) :=
  cond (decide (x.1.1 < (0 : Int)))
    (some ((7 : Int), ()))
    (cond (cond (cond (decide (x.1.1 > (16 : Int))) true (decide ((x.1.2.1.length : Int) > (16 : Int)))) true (decide ((x.1.2.2.1.length : Int) > (16 : Int))))
      (some ((6 : Int), ()))
      (Option.bind (lim ref17_Check_l12_step (x.1, (0 : Int), ())) fun y1 => out2 y1
        (fun z2 =>
          some (z2.1, ()))
        (fun z3 =>
          Option.bind (lim ref17_Check_l24_step (z3.1, (0 : Int), ())) fun y5 => out2 y5
            (fun z6 =>
              some (z6.1, ()))
            (fun z7 =>
              Option.bind (ref15_Check (z7.1.2.2.2, z7.1.1, ())) fun y8 =>
              some y8))))
noncomputable def ref17_Check_c : Ctr := ⟨(.cons t_api_Sig .nil), (.cons (.int .i64) .nil), ref17_Check, none⟩
theorem ref17_Check_ok : CtrOK Tryz.prog 146 ref17_Check_c := fun_E k70 Tryz.func146 k70s (by kernel_rfl) (fun x => by kernel_rfl)
/-! ### easement/easementref21.types: function 100 -/
noncomputable def k71 : FE Tryz.prog := ⟨[(145, ref15_Check_c), (90, ref15_Shape_c), (146, ref17_Check_c)], [], [], [], ⟨ref15_Check_ok, ref15_Shape_ok, ref17_Check_ok, trivial⟩, trivial, trivial⟩
noncomputable def ref21_types_l12_step (g : (V_api_Body × V_valid_Fault × Int × Unit) → Option T52) (x : (V_api_Body × V_valid_Fault × Int × Unit)) : Option T52 :=
  cond (decide (x.2.2.1 < (x.1.2.2.2.1.length : Int)))
    (ck (inB x.2.2.1 (x.1.2.2.2.1.length)) <|
    Option.bind (ref15_Check (rdL t_api_Type x.1.2.2.2.1 x.2.2.1, x.1.2.1, ())) fun y1 =>
    cond (y1.1 != (0 : Int))
      (some (.inl (x.1, (y1.1, (2 : Int), x.2.2.1, (0 : Int), ()), ())))
      (g (x.1, x.2.1, IntKind.i64.wrap (x.2.2.1 + (1 : Int)), ())))
    (some (.inr (.inl (x.1, x.2.1, ()))))
noncomputable def k71l1 : LCtr := ⟨[1, 2, 3], (.cons (.ptr q2) (.cons (.ptr q46) (.cons (.val (.int .i64)) .nil))), [some 0, some 1], [1, 2], [⟨.ret, [1, 2], (.cons (.ptr q2) (.cons (.ptr q46) .nil)), [some 0, some 1]⟩, ⟨(.exit 0), [1, 2], (.cons (.ptr q2) (.cons (.ptr q46) .nil)), [some 0, some 1]⟩], fun _ => [], lim ref21_types_l12_step⟩
noncomputable def ref21_types_l38_step (g : (V_api_Body × V_valid_Fault × Int × Unit) → Option T52) (x : (V_api_Body × V_valid_Fault × Int × Unit)) : Option T52 :=
  cond (decide (x.2.2.1 < (x.1.2.2.2.2.2.1.length : Int)))
    (ck (inB x.2.2.1 (x.1.2.2.2.2.2.1.length)) <|
    Option.bind (ref17_Check (rdL t_api_Sig x.1.2.2.2.2.2.1 x.2.2.1, ())) fun y7 =>
    cond (y7.1 != (0 : Int))
      (some (.inl (x.1, (y7.1, (4 : Int), x.2.2.1, (0 : Int), ()), ())))
      (g (x.1, x.2.1, IntKind.i64.wrap (x.2.2.1 + (1 : Int)), ())))
    (some (.inr (.inl (x.1, x.2.1, ()))))
noncomputable def k71l2 : LCtr := ⟨[1, 2, 6], (.cons (.ptr q2) (.cons (.ptr q46) (.cons (.val (.int .i64)) .nil))), [some 0, some 1], [2], [⟨.ret, [1, 2], (.cons (.ptr q2) (.cons (.ptr q46) .nil)), [some 0, some 1]⟩, ⟨(.exit 2), [1, 2], (.cons (.ptr q2) (.cons (.ptr q46) .nil)), [some 0, some 1]⟩], fun _ => [], lim ref21_types_l38_step⟩
theorem k71s : LsOK Tryz.prog Tryz.f100.ntmps (codeOf Tryz.f100) [(38, k71l2), (12, k71l1)] := loop_E 38 k71l2 k71 (loop_E 12 k71l1 k71 trivial (by kernel_rfl) rfl (fun g x => by kernel_rfl)) (by kernel_rfl) rfl (fun g x => by kernel_rfl)
noncomputable def ref21_types (x : (V_api_Body × Unit)) : Option (V_valid_Fault × Unit) :=
  cond ((x.1.2.2.2.1.length : Int) == (0 : Int))
    (some (((14 : Int), (2 : Int), (0 : Int), (0 : Int), ()), ()))
    (cond (decide ((x.1.2.2.2.1.length : Int) > (65536 : Int)))
      (some (((6 : Int), (2 : Int), (0 : Int), (0 : Int), ()), ()))
      (Option.bind (lim ref21_types_l12_step (x.1, ((0 : Int), (0 : Int), (0 : Int), (0 : Int), ()), (0 : Int), ())) fun y2 => out2 y2
        (fun z3 =>
          some z3.2)
        (fun z4 =>
          Option.bind (ref15_Check ((z4.1.2.2.2.2.1, ()), z4.1.1, ())) fun y5 =>
          cond (y5.1 != (0 : Int))
            (some ((y5.1, (3 : Int), (0 : Int), (0 : Int), ()), ()))
            (ck (inB (0 : Int) (z4.1.2.2.2.1.length)) <|
            Option.bind (ref15_Shape (rdL t_api_Type z4.1.2.2.2.1 (0 : Int), (z4.1.2.2.2.2.1, ()), ())) fun y6 =>
            cond (!y6.1)
              (some (((8 : Int), (3 : Int), (0 : Int), (0 : Int), ()), ()))
              (cond (decide ((z4.1.2.2.2.2.2.1.length : Int) > (65536 : Int)))
                (some (((6 : Int), (4 : Int), (0 : Int), (0 : Int), ()), ()))
                (Option.bind (lim ref21_types_l38_step (z4.1, z4.2.1, (0 : Int), ())) fun y8 => out2 y8
                  (fun z9 =>
                    some z9.2)
                  (fun z10 =>
                    some (((0 : Int), (0 : Int), (0 : Int), (0 : Int), ()), ()))))))))
noncomputable def ref21_types_c : Ctr := ⟨(.cons t_api_Body .nil), (.cons t_valid_Fault .nil), ref21_types, none⟩
theorem ref21_types_ok : CtrOK Tryz.prog 100 ref21_types_c := fun_E k71 Tryz.func100 k71s (by kernel_rfl) (fun x => by kernel_rfl)
/-! ### easement/easementref18.Dst: function 182 -/
noncomputable def ref18_Dst (x : (Int × Unit)) : Option (Bool × Unit) :=
  some (cond (cond (cond (x.1 == (1 : Int)) true (x.1 == (2 : Int))) true (x.1 == (3 : Int))) true (x.1 == (5 : Int)), ())
noncomputable def ref18_Dst_c : Ctr := ⟨(.cons (.int .i64) .nil), (.cons .bool .nil), ref18_Dst, none⟩
theorem ref18_Dst_ok : CtrOK Tryz.prog 182 ref18_Dst_c := fun_E (ls := []) k0 Tryz.func182 trivial (by kernel_rfl) (fun x => by kernel_rfl)
/-! ### easement/easementref18.Src: function 183 -/
noncomputable def ref18_Src (x : (Int × Unit)) : Option (Bool × Unit) :=
  some (cond (decide (x.1 ≥ (1 : Int))) (decide (x.1 ≤ (4 : Int))) false, ())
noncomputable def ref18_Src_c : Ctr := ⟨(.cons (.int .i64) .nil), (.cons .bool .nil), ref18_Src, none⟩
theorem ref18_Src_ok : CtrOK Tryz.prog 183 ref18_Src_c := fun_E (ls := []) k0 Tryz.func183 trivial (by kernel_rfl) (fun x => by kernel_rfl)
/-! ### easement/easementref18.Region: function 184 -/
noncomputable def ref18_Region (x : (Int × Unit)) : Option (Bool × Unit) :=
  some (cond (x.1 == (2 : Int)) true (x.1 == (3 : Int)), ())
noncomputable def ref18_Region_c : Ctr := ⟨(.cons (.int .i64) .nil), (.cons .bool .nil), ref18_Region, none⟩
theorem ref18_Region_ok : CtrOK Tryz.prog 184 ref18_Region_c := fun_E (ls := []) k0 Tryz.func184 trivial (by kernel_rfl) (fun x => by kernel_rfl)
/-! ### easement/easementref18.Form: function 181 -/
noncomputable def k75 : FE Tryz.prog := ⟨[(182, ref18_Dst_c), (183, ref18_Src_c), (184, ref18_Region_c)], [], [], [], ⟨ref18_Dst_ok, ref18_Src_ok, ref18_Region_ok, trivial⟩, trivial, trivial⟩
noncomputable def ref18_Form (x : (V_api_Prov × Unit)) : Option (Bool × Unit) :=
  cond (cond (decide (x.1.1 ≥ (0 : Int))) (decide (x.1.1 ≤ (5 : Int))) false)
    (Option.bind (ref18_Dst (x.1.1, ())) fun y1 =>
    cond (cond y1.1 true (x.1.2.1 == (0 : Int)))
      (Option.bind (ref18_Src (x.1.1, ())) fun y2 =>
      cond (cond y2.1 true (x.1.2.2.1 == (0 : Int)))
        (Option.bind (ref18_Region (x.1.1, ())) fun y3 =>
        some (cond y3.1 true (cond (x.1.2.2.2.1 == (0 : Int)) (!x.1.2.2.2.2.1) false), ()))
        (some (false, ())))
      (some (false, ())))
    (some (false, ()))
noncomputable def ref18_Form_c : Ctr := ⟨(.cons t_api_Prov .nil), (.cons .bool .nil), ref18_Form, none⟩
theorem ref18_Form_ok : CtrOK Tryz.prog 181 ref18_Form_c := fun_E (ls := []) k75 Tryz.func181 trivial (by kernel_rfl) (fun x => by kernel_rfl)
/-! ### easement/easementref16.slots: function 212, at objects -/
noncomputable def ref16_slots_p0_j81_v (x : ((List V_api_Prov) × (List V_api_Slot) × (List V_api_Slot) × Int × Int × Int × Bool × Unit)) : Option (V_relate_maker ⊕ Empty) :=
  cond (x.2.2.2.2.2.2.1)
    (ck (inB x.2.2.2.2.2.1 (x.2.2.1.length)) <|
    ck (inB x.2.2.2.2.2.1 (x.2.1.length)) <|
    let v1 := x.1 ++ [((rdL t_api_Slot x.2.2.1 x.2.2.2.2.2.1).1, (rdL t_api_Slot x.2.1 x.2.2.2.2.2.1).1, x.2.2.2.1, IntKind.i64.wrap (x.2.2.2.2.1 + x.2.2.2.2.2.1), true, ())]
    ck (roomB v1.length 46) <|
    some (.inl (v1, ())))
    (some (.inl (x.1, ())))
noncomputable def k76l1 : LCtr := ⟨[0, 1, 2, 3, 4, 11, 40], (.cons (.own t_api_Prov) (.cons (.val (.lst t_api_Slot)) (.cons (.val (.lst t_api_Slot)) (.cons (.val (.int .i64)) (.cons (.val (.int .i64)) (.cons (.val (.int .i64)) (.cons (.val .bool) .nil))))))), [], [1, 2, 3, 4, 11], [⟨.normal, [0], (.cons (.own t_api_Prov) .nil), [none]⟩], fun _ => [], ref16_slots_p0_j81_v⟩
noncomputable def ref16_slots_p0_l4_step (g : T55 → Option (V_relate_maker ⊕ Empty)) (x : T55) : Option (V_relate_maker ⊕ Empty) :=
  cond (decide (x.2.2.2.2.2.1 < (x.2.1.length : Int)))
    (ck (inB x.2.2.2.2.2.1 (x.2.1.length)) <|
    ck (inB x.2.2.2.2.2.1 (x.2.2.1.length)) <|
    let v1 := x.1 ++ [((rdL t_api_Slot x.2.1 x.2.2.2.2.2.1).1, (rdL t_api_Slot x.2.2.1 x.2.2.2.2.2.1).1, x.2.2.2.1, IntKind.i64.wrap (x.2.2.2.2.1 + x.2.2.2.2.2.1), false, ())]
    ck (roomB v1.length 46) <|
    ck (inB x.2.2.2.2.2.1 (x.2.2.1.length)) <|
    Option.bind (ref16_slots_p0_j81_v (v1, x.2.1, x.2.2.1, x.2.2.2.1, x.2.2.2.2.1, x.2.2.2.2.2.1, (rdL t_api_Slot x.2.2.1 x.2.2.2.2.2.1).2)) fun y1 => out1 y1
      (fun z2 =>
        g (z2.1, x.2.1, x.2.2.1, x.2.2.2.1, x.2.2.2.2.1, IntKind.i64.wrap (x.2.2.2.2.2.1 + (1 : Int)), ())))
    (some (.inl (x.1, ())))
noncomputable def k76l2 : LCtr := ⟨[0, 1, 2, 3, 4, 11], (.cons (.own t_api_Prov) (.cons (.val (.lst t_api_Slot)) (.cons (.val (.lst t_api_Slot)) (.cons (.val (.int .i64)) (.cons (.val (.int .i64)) (.cons (.val (.int .i64)) .nil)))))), [none], [1, 2, 3, 4], [⟨(.exit 0), [0], (.cons (.own t_api_Prov) .nil), [none]⟩], fun _ => [], lim ref16_slots_p0_l4_step⟩
theorem k76s : LsOK Tryz.prog Tryz.f212.ntmps (codeOf Tryz.f212) [(4, k76l2), (786513, k76l1)] := loop_E 4 k76l2 k0 (join_E 786513 k76l1 k0 trivial (by kernel_rfl) (fun x => by kernel_rfl)) (by kernel_rfl) rfl (fun g x => by kernel_rfl)
noncomputable def ref16_slots_p0 (x : ((List V_api_Prov) × (List V_api_Slot) × (List V_api_Slot) × Int × Int × Unit)) : Option (V_relate_maker ⊕ Empty) :=
  Option.bind (lim ref16_slots_p0_l4_step (x.1, x.2.1, x.2.2.1, x.2.2.2.1, x.2.2.2.2.1, (0 : Int), ())) fun y3 => out1 y3
    (fun z4 =>
      some (.inl z4))
noncomputable def k76L : LCtr := ⟨[0, 1, 2, 3, 4], (.cons (.own t_api_Prov) (.cons (.val (.lst t_api_Slot)) (.cons (.val (.lst t_api_Slot)) (.cons (.val (.int .i64)) (.cons (.val (.int .i64)) .nil))))), [], [], [⟨.ret, [10], (.cons (.own t_api_Prov) .nil), [none]⟩], fun _ => [], ref16_slots_p0⟩
noncomputable def ref16_slots_p0_c : PI := mkPI Tryz.f212 k76L
theorem ref16_slots_p0_ok : PIOK Tryz.prog 212 ref16_slots_p0_c := proc_E k0 Tryz.func212 k76s (by kernel_rfl) (fun x => by kernel_rfl)
/-! ### easement/easementref16.Flow: function 185 -/
noncomputable def k77 : FE Tryz.prog := ⟨[(90, ref15_Shape_c)], [(212, [ref16_slots_p0_c])], [], [], ⟨ref15_Shape_ok, trivial⟩, ⟨⟨ref16_slots_p0_ok, trivial⟩, trivial⟩, trivial⟩
noncomputable def ref16_Flow (x : (V_api_Type × V_api_Type × Int × Int × Unit)) : Option ((List V_api_Prov) × Int × Unit) :=
  Option.bind (ref15_Shape (x.1, x.2.1, ())) fun y1 =>
  cond (!y1.1)
    (some (([] : List V_api_Prov), (8 : Int), ()))
    (Option.bind (ref16_slots_p0 (([] : List V_api_Prov), x.1.1, x.2.1.1, x.2.2)) fun y2 => out1 y2
      (fun z3 =>
        some (z3.1, (0 : Int), ())))
noncomputable def ref16_Flow_c : Ctr := ⟨(.cons t_api_Type (.cons t_api_Type (.cons (.int .i64) (.cons (.int .i64) .nil)))), (.cons (.lst t_api_Prov) (.cons (.int .i64) .nil)), ref16_Flow, none⟩
theorem ref16_Flow_ok : CtrOK Tryz.prog 185 ref16_Flow_c := fun_E (ls := []) k77 Tryz.func185 trivial (by kernel_rfl) (fun x => by kernel_rfl)
/-! ### easement/easementref15.Ref: function 213 -/
noncomputable def ref15_Ref_l6_step (g : (V_api_Type × Bool × (List V_api_Slot) × Int × Unit) → Option (((List V_api_Slot) × V_api_Type × Unit) ⊕ Empty)) (x : (V_api_Type × Bool × (List V_api_Slot) × Int × Unit)) : Option (((List V_api_Slot) × V_api_Type × Unit) ⊕ Empty) :=
  cond (decide (x.2.2.2.1 < (x.1.1.length : Int)))
    (ck (inB x.2.2.2.1 (x.1.1.length)) <|
    ck (inB x.2.2.2.1 (x.1.1.length)) <|
    let v1 := x.2.2.1 ++ [((rdL t_api_Slot x.1.1 x.2.2.2.1).1, cond (rdL t_api_Slot x.1.1 x.2.2.2.1).2.1 true x.2.1, ())]
    ck (roomB v1.length 19) <|
    g (x.1, x.2.1, v1, IntKind.i64.wrap (x.2.2.2.1 + (1 : Int)), ()))
    (some (.inl (x.2.2.1, x.1, ())))
noncomputable def k78l1 : LCtr := ⟨[3, 2, 7, 8], (.cons (.ptr (.cons (.val (.lst t_api_Slot)) .nil)) (.cons (.val .bool) (.cons (.own t_api_Slot) (.cons (.val (.int .i64)) .nil)))), [some 0, none], [6], [⟨(.exit 0), [7, 3], (.cons (.own t_api_Slot) (.cons (.ptr (.cons (.val (.lst t_api_Slot)) .nil)) .nil)), [none, some 0]⟩], fun _ => [], lim ref15_Ref_l6_step⟩
theorem k78s : LsOK Tryz.prog Tryz.f213.ntmps (codeOf Tryz.f213) [(6, k78l1)] := loop_E 6 k78l1 k0 trivial (by kernel_rfl) rfl (fun g x => by kernel_rfl)
noncomputable def ref15_Ref (x : (V_api_Type × Int × Bool × Unit)) : Option (V_api_Type × Unit) :=
  Option.bind (lim ref15_Ref_l6_step (x.1, x.2.2.1, [(x.2.1, false, ())], (0 : Int), ())) fun y1 => out1 y1
    (fun z2 =>
      some ((z2.1, ()), ()))
noncomputable def ref15_Ref_c : Ctr := ⟨(.cons t_api_Type (.cons (.int .i64) (.cons .bool .nil))), (.cons t_api_Type .nil), ref15_Ref, none⟩
theorem ref15_Ref_ok : CtrOK Tryz.prog 213 ref15_Ref_c := fun_E k0 Tryz.func213 k78s (by kernel_rfl) (fun x => by kernel_rfl)
/-! ### easement/easementref16.Loan: function 186 -/
noncomputable def k79 : FE Tryz.prog := ⟨[(213, ref15_Ref_c), (90, ref15_Shape_c)], [(212, [ref16_slots_p0_c])], [], [], ⟨ref15_Ref_ok, ref15_Shape_ok, trivial⟩, ⟨⟨ref16_slots_p0_ok, trivial⟩, trivial⟩, trivial⟩
noncomputable def ref16_Loan (x : (V_api_Type × V_api_Type × Int × Bool × Unit)) : Option ((List V_api_Prov) × Int × Unit) :=
  Option.bind (ref15_Ref (x.1, x.2.2)) fun y1 =>
  Option.bind (ref15_Shape (y1.1, x.2.1, ())) fun y2 =>
  cond (!y2.1)
    (some (([] : List V_api_Prov), (8 : Int), ()))
    (ck (inB (0 : Int) (x.2.1.1.length)) <|
    ck (decide (0 ≤ (1 : Int)) && decide ((1 : Int) ≤ x.2.1.1.length)) <|
    Option.bind (ref16_slots_p0 ([(x.2.2.1, (rdL t_api_Slot x.2.1.1 (0 : Int)).1, (2 : Int), (0 : Int), false, ())], x.1.1, x.2.1.1.drop (1 : Int).toNat, (1 : Int), (1 : Int), ())) fun y3 => out1 y3
      (fun z4 =>
        some (z4.1, (0 : Int), ())))
noncomputable def ref16_Loan_c : Ctr := ⟨(.cons t_api_Type (.cons t_api_Type (.cons (.int .i64) (.cons .bool .nil)))), (.cons (.lst t_api_Prov) (.cons (.int .i64) .nil)), ref16_Loan, none⟩
theorem ref16_Loan_ok : CtrOK Tryz.prog 186 ref16_Loan_c := fun_E (ls := []) k79 Tryz.func186 trivial (by kernel_rfl) (fun x => by kernel_rfl)
/-! ### easement/easementref16.Again: function 187 -/
noncomputable def k80 : FE Tryz.prog := ⟨[(90, ref15_Shape_c)], [(212, [ref16_slots_p0_c])], [], [], ⟨ref15_Shape_ok, trivial⟩, ⟨⟨ref16_slots_p0_ok, trivial⟩, trivial⟩, trivial⟩
noncomputable def ref16_Again_l8_step (g : (V_api_Type × Bool × Int × Unit) → Option T57) (x : (V_api_Type × Bool × Int × Unit)) : Option T57 :=
  cond (decide (x.2.2.1 < (x.1.1.length : Int)))
    (ck ((inB x.2.2.1 (x.1.1.length)) || !x.2.1) <|
    cond (cond x.2.1 (!(rdL t_api_Slot x.1.1 x.2.2.1).2.1) false)
      (some (.inl (([] : List V_api_Prov), (8 : Int), x.1, ())))
      (g (x.1, x.2.1, IntKind.i64.wrap (x.2.2.1 + (1 : Int)), ())))
    (some (.inr (.inl (x.1, ()))))
noncomputable def k80l1 : LCtr := ⟨[4, 3, 10], (.cons (.ptr (.cons (.val (.lst t_api_Slot)) .nil)) (.cons (.val .bool) (.cons (.val (.int .i64)) .nil))), [some 0], [2, 4, 5], [⟨.ret, [8, 9, 4], (.cons (.own t_api_Prov) (.cons (.val (.int .i64)) (.cons (.ptr (.cons (.val (.lst t_api_Slot)) .nil)) .nil))), [none, some 0]⟩, ⟨(.exit 0), [4], (.cons (.ptr (.cons (.val (.lst t_api_Slot)) .nil)) .nil), [some 0]⟩], fun _ => [], lim ref16_Again_l8_step⟩
theorem k80s : LsOK Tryz.prog Tryz.f187.ntmps (codeOf Tryz.f187) [(8, k80l1)] := loop_E 8 k80l1 k80 trivial (by kernel_rfl) rfl (fun g x => by kernel_rfl)
noncomputable def ref16_Again (x : (V_api_Type × V_api_Type × Int × Bool × Unit)) : Option ((List V_api_Prov) × Int × Unit) :=
  cond (!((x.1.1.length : Int) == (0 : Int)))
    (Option.bind (ref15_Shape (x.1, x.2.1, ())) fun y1 =>
    ck ((inB (0 : Int) (x.1.1.length)) || !(!(!y1.1))) <|
    cond (cond (!y1.1) true (rdL t_api_Slot x.1.1 (0 : Int)).2.1)
      (some (([] : List V_api_Prov), (8 : Int), ()))
      (Option.bind (lim ref16_Again_l8_step (x.1, x.2.2.2.1, (1 : Int), ())) fun y2 => out2 y2
        (fun z3 =>
          some (z3.1, z3.2.1, ()))
        (fun z4 =>
          ck (inB (0 : Int) (z4.1.1.length)) <|
          ck (inB (0 : Int) (x.2.1.1.length)) <|
          ck (decide (0 ≤ (1 : Int)) && decide ((1 : Int) ≤ z4.1.1.length)) <|
          ck (decide (0 ≤ (1 : Int)) && decide ((1 : Int) ≤ x.2.1.1.length)) <|
          Option.bind (ref16_slots_p0 ([((rdL t_api_Slot z4.1.1 (0 : Int)).1, x.2.2.1, (3 : Int), (0 : Int), false, ()), (x.2.2.1, (rdL t_api_Slot x.2.1.1 (0 : Int)).1, (2 : Int), (0 : Int), false, ())], z4.1.1.drop (1 : Int).toNat, x.2.1.1.drop (1 : Int).toNat, (1 : Int), (1 : Int), ())) fun y5 => out1 y5
            (fun z6 =>
              some (z6.1, (0 : Int), ())))))
    (ck ((inB (0 : Int) (x.1.1.length)) || !false) <|
    some (([] : List V_api_Prov), (8 : Int), ()))
noncomputable def ref16_Again_c : Ctr := ⟨(.cons t_api_Type (.cons t_api_Type (.cons (.int .i64) (.cons .bool .nil)))), (.cons (.lst t_api_Prov) (.cons (.int .i64) .nil)), ref16_Again, none⟩
theorem ref16_Again_ok : CtrOK Tryz.prog 187 ref16_Again_c := fun_E k80 Tryz.func187 k80s (by kernel_rfl) (fun x => by kernel_rfl)
/-! ### easement/easementref18.Needs: function 147 -/
noncomputable def k81 : FE Tryz.prog := ⟨[(181, ref18_Form_c), (182, ref18_Dst_c), (183, ref18_Src_c), (184, ref18_Region_c), (185, ref16_Flow_c), (186, ref16_Loan_c), (187, ref16_Again_c)], [], [], [], ⟨ref18_Form_ok, ref18_Dst_ok, ref18_Src_ok, ref18_Region_ok, ref16_Flow_ok, ref16_Loan_ok, ref16_Again_ok, trivial⟩, trivial, trivial⟩
noncomputable def ref18_Needs (x : (V_api_Prov × (List V_api_Type) × Int × Unit)) : Option ((List V_api_Prov) × Int × Unit) :=
  Option.bind (ref18_Form (x.1, ())) fun y1 =>
  cond (!y1.1)
    (some (([] : List V_api_Prov), (3 : Int), ()))
    (Option.bind (ref18_Dst (x.1.1, ())) fun y2 =>
    cond (!(cond y2.1 (cond (decide (x.1.2.1 < (0 : Int))) true (decide (x.1.2.1 ≥ (x.2.1.length : Int)))) false))
      (Option.bind (ref18_Src (x.1.1, ())) fun y3 =>
      cond (!(cond y3.1 (cond (decide (x.1.2.2.1 < (0 : Int))) true (decide (x.1.2.2.1 ≥ (x.2.1.length : Int)))) false))
        (Option.bind (ref18_Region (x.1.1, ())) fun y4 =>
        cond (cond y4.1 (cond (decide (x.1.2.2.2.1 < (0 : Int))) true (decide (x.1.2.2.2.1 ≥ x.2.2.1))) false)
          (some (([] : List V_api_Prov), (7 : Int), ()))
          (cond (x.1.1 == (1 : Int))
            (ck (inB x.1.2.2.1 (x.2.1.length)) <|
            ck (inB x.1.2.1 (x.2.1.length)) <|
            Option.bind (ref16_Flow (rdL t_api_Type x.2.1 x.1.2.2.1, rdL t_api_Type x.2.1 x.1.2.1, (1 : Int), (0 : Int), ())) fun y5 =>
            some y5)
            (cond (x.1.1 == (2 : Int))
              (ck (inB x.1.2.2.1 (x.2.1.length)) <|
              ck (inB x.1.2.1 (x.2.1.length)) <|
              Option.bind (ref16_Loan (rdL t_api_Type x.2.1 x.1.2.2.1, rdL t_api_Type x.2.1 x.1.2.1, x.1.2.2.2)) fun y6 =>
              some y6)
              (cond (x.1.1 == (3 : Int))
                (ck (inB x.1.2.2.1 (x.2.1.length)) <|
                ck (inB x.1.2.1 (x.2.1.length)) <|
                Option.bind (ref16_Again (rdL t_api_Type x.2.1 x.1.2.2.1, rdL t_api_Type x.2.1 x.1.2.1, x.1.2.2.2)) fun y7 =>
                some y7)
                (some (([] : List V_api_Prov), (0 : Int), ()))))))
        (some (([] : List V_api_Prov), (7 : Int), ())))
      (some (([] : List V_api_Prov), (7 : Int), ())))
noncomputable def ref18_Needs_c : Ctr := ⟨(.cons t_api_Prov (.cons (.lst t_api_Type) (.cons (.int .i64) .nil))), (.cons (.lst t_api_Prov) (.cons (.int .i64) .nil)), ref18_Needs, none⟩
theorem ref18_Needs_ok : CtrOK Tryz.prog 147 ref18_Needs_c := fun_E (ls := []) k81 Tryz.func147 trivial (by kernel_rfl) (fun x => by kernel_rfl)
/-! ### easement/easementref19.Form: function 188 -/
noncomputable def ref19_Form (x : (V_api_Term × Unit)) : Option (Int × Unit) :=
  cond (cond (decide (x.1.1 < (1 : Int))) true (decide (x.1.1 > (4 : Int))))
    (some ((3 : Int), ()))
    (cond (cond (cond (cond (cond (x.1.1 == (1 : Int)) true (x.1.1 == (4 : Int))) ((x.1.2.2.2.1.length : Int) != (1 : Int)) false) true (cond (x.1.1 == (2 : Int)) ((x.1.2.2.2.1.length : Int) == (0 : Int)) false)) true (cond (x.1.1 == (3 : Int)) ((x.1.2.2.2.1.length : Int) != (0 : Int)) false))
      (some ((3 : Int), ()))
      (cond (cond (x.1.1 != (4 : Int)) (cond (cond (x.1.2.1 != (0 : Int)) true (x.1.2.2.1 != (0 : Int))) true ((x.1.2.2.2.2.2.1.length : Int) != (0 : Int))) false)
        (some ((3 : Int), ()))
        (cond (cond (cond (x.1.1 == (1 : Int)) true (x.1.1 == (3 : Int))) ((x.1.2.2.2.2.1.length : Int) != (0 : Int)) false)
          (some ((3 : Int), ()))
          (cond (cond (cond (decide ((x.1.2.2.2.1.length : Int) > (16 : Int))) true (decide ((x.1.2.2.2.2.1.length : Int) > (16 : Int)))) true (decide ((x.1.2.2.2.2.2.1.length : Int) > (16 : Int))))
            (some ((6 : Int), ()))
            (some ((0 : Int), ()))))))
noncomputable def ref19_Form_c : Ctr := ⟨(.cons t_api_Term .nil), (.cons (.int .i64) .nil), ref19_Form, none⟩
theorem ref19_Form_ok : CtrOK Tryz.prog 188 ref19_Form_c := fun_E (ls := []) k0 Tryz.func188 trivial (by kernel_rfl) (fun x => by kernel_rfl)
/-! ### easement/easementref19.within: function 189 -/
noncomputable def ref19_within_l4_step (g : ((List Int) × Int × Int × Unit) → Option ((Bool × Unit) ⊕ (Unit ⊕ Empty))) (x : ((List Int) × Int × Int × Unit)) : Option ((Bool × Unit) ⊕ (Unit ⊕ Empty)) :=
  cond (decide (x.2.2.1 < (x.1.length : Int)))
    (ck (inB x.2.2.1 (x.1.length)) <|
    let v1 := decide ((rdL (.int .i64) x.1 x.2.2.1) < (0 : Int))
    ck ((inB x.2.2.1 (x.1.length)) || !(!v1)) <|
    cond (cond v1 true (decide ((rdL (.int .i64) x.1 x.2.2.1) ≥ x.2.1)))
      (some (.inl (false, ())))
      (g (x.1, x.2.1, IntKind.i64.wrap (x.2.2.1 + (1 : Int)), ())))
    (some (.inr (.inl ())))
noncomputable def k83l1 : LCtr := ⟨[0, 1, 5], (.cons (.val (.lst (.int .i64))) (.cons (.val (.int .i64)) (.cons (.val (.int .i64)) .nil))), [], [], [⟨.ret, [4], (.cons (.val .bool) .nil), []⟩, ⟨(.exit 0), [], .nil, []⟩], fun _ => [], lim ref19_within_l4_step⟩
theorem k83s : LsOK Tryz.prog Tryz.f189.ntmps (codeOf Tryz.f189) [(4, k83l1)] := loop_E 4 k83l1 k0 trivial (by kernel_rfl) rfl (fun g x => by kernel_rfl)
noncomputable def ref19_within (x : ((List Int) × Int × Unit)) : Option (Bool × Unit) :=
  Option.bind (lim ref19_within_l4_step (x.1, x.2.1, (0 : Int), ())) fun y1 => out2 y1
    (fun z2 =>
      some z2)
    (fun z3 =>
      some (true, ()))
noncomputable def ref19_within_c : Ctr := ⟨(.cons (.lst (.int .i64)) (.cons (.int .i64) .nil)), (.cons .bool .nil), ref19_within, none⟩
theorem ref19_within_ok : CtrOK Tryz.prog 189 ref19_within_c := fun_E k0 Tryz.func189 k83s (by kernel_rfl) (fun x => by kernel_rfl)
/-! ### easement/easementref15.Subst: function 214 -/
noncomputable def ref15_Subst_l6_step (g : T58 → Option T59) (x : T58) : Option T59 :=
  cond (decide (x.2.2.2.2.1 < (x.1.1.length : Int)))
    (ck (inB x.2.2.2.2.1 (x.1.1.length)) <|
    let v1 := (rdL t_api_Slot x.1.1 x.2.2.2.2.1).1
    cond (cond (decide (v1 < (0 : Int))) true (decide (v1 ≥ (x.2.2.1.length : Int))))
      (some (.inl ((7 : Int), x.1, ((), ()), x.2.2.2.1, ())))
      (ck (inB v1 (x.2.2.1.length)) <|
      ck (inB x.2.2.2.2.1 (x.1.1.length)) <|
      let v2 := x.2.2.2.1 ++ [(rdL (.int .i64) x.2.2.1 v1, (rdL t_api_Slot x.1.1 x.2.2.2.2.1).2)]
      ck (roomB v2.length 19) <|
      g (x.1, x.2.1, x.2.2.1, v2, IntKind.i64.wrap (x.2.2.2.2.1 + (1 : Int)), ())))
    (some (.inr (.inl (x.2.2.2.1, x.1, x.2.1, ()))))
noncomputable def k84l1 : LCtr := ⟨[2, 4, 1, 6, 7], (.cons (.ptr (.cons (.val (.lst t_api_Slot)) .nil)) (.cons (.ptr (.cons (.own t_api_Slot) .nil)) (.cons (.val (.lst (.int .i64))) (.cons (.own t_api_Slot) (.cons (.val (.int .i64)) .nil))))), [some 0, some 1, some 2, none], [4], [⟨.ret, [5, 2, 4, 6], (.cons (.val (.int .i64)) (.cons (.ptr (.cons (.val (.lst t_api_Slot)) .nil)) (.cons (.ptr (.cons (.cst false) .nil)) (.cons (.own t_api_Slot) .nil)))), [some 0, some 1, none]⟩, ⟨(.exit 0), [6, 2, 4], (.cons (.own t_api_Slot) (.cons (.ptr (.cons (.val (.lst t_api_Slot)) .nil)) (.cons (.ptr (.cons (.own t_api_Slot) .nil)) .nil))), [none, some 0, some 1, some 2]⟩], fun _ => [], lim ref15_Subst_l6_step⟩
theorem k84s : LsOK Tryz.prog Tryz.f214.ntmps (codeOf Tryz.f214) [(6, k84l1)] := loop_E 6 k84l1 k0 trivial (by kernel_rfl) rfl (fun g x => by kernel_rfl)
noncomputable def ref15_Subst (x : (V_api_Type × (List Int) × Unit)) : Option (V_api_Type × Int × Unit) :=
  Option.bind (lim ref15_Subst_l6_step (x.1, (([] : List V_api_Slot), ()), x.2.1, ([] : List V_api_Slot), (0 : Int), ())) fun y1 => out2 y1
    (fun z2 =>
      some ((([] : List V_api_Slot), ()), z2.1, ()))
    (fun z3 =>
      some ((z3.1, ()), (0 : Int), ()))
noncomputable def ref15_Subst_c : Ctr := ⟨(.cons t_api_Type (.cons (.lst (.int .i64)) .nil)), (.cons t_api_Type (.cons (.int .i64) .nil)), ref15_Subst, none⟩
theorem ref15_Subst_ok : CtrOK Tryz.prog 214 ref15_Subst_c := fun_E k0 Tryz.func214 k84s (by kernel_rfl) (fun x => by kernel_rfl)
/-! ### easement/easementref17.Call: function 190 -/
noncomputable def k85 : FE Tryz.prog := ⟨[(146, ref17_Check_c), (214, ref15_Subst_c), (185, ref16_Flow_c)], [], [], [], ⟨ref17_Check_ok, ref15_Subst_ok, ref16_Flow_ok, trivial⟩, trivial, trivial⟩
noncomputable def ref17_Call_l16_step (g : (V_api_Sig × (List Int) × (List V_api_Prov) × Int × Unit) → Option (((List V_api_Prov) × V_api_Sig × Unit) ⊕ Empty)) (x : (V_api_Sig × (List Int) × (List V_api_Prov) × Int × Unit)) : Option (((List V_api_Prov) × V_api_Sig × Unit) ⊕ Empty) :=
  cond (decide (x.2.2.2.1 < (x.1.2.1.length : Int)))
    (ck (inB x.2.2.2.1 (x.1.2.1.length)) <|
    let v1 := (rdL t_easementref08_Pair x.1.2.1 x.2.2.2.1).1
    ck (inB v1 (x.2.1.length)) <|
    ck (inB x.2.2.2.1 (x.1.2.1.length)) <|
    let v2 := (rdL t_easementref08_Pair x.1.2.1 x.2.2.2.1).2.1
    ck (inB v2 (x.2.1.length)) <|
    let v3 := x.2.2.1 ++ [(rdL (.int .i64) x.2.1 v1, rdL (.int .i64) x.2.1 v2, (4 : Int), x.2.2.2.1, false, ())]
    ck (roomB v3.length 46) <|
    g (x.1, x.2.1, v3, IntKind.i64.wrap (x.2.2.2.1 + (1 : Int)), ()))
    (some (.inl (x.2.2.1, x.1, ())))
noncomputable def k85l1 : LCtr := ⟨[4, 1, 11, 12], (.cons (.ptr q1) (.cons (.val (.lst (.int .i64))) (.cons (.own t_api_Prov) (.cons (.val (.int .i64)) .nil)))), [some 0, none], [1, 2, 4, 7], [⟨(.exit 0), [11, 4], (.cons (.own t_api_Prov) (.cons (.ptr q1) .nil)), [none, some 0]⟩], fun _ => [], lim ref17_Call_l16_step⟩
noncomputable def ref17_Call_l24_step (g : T60 → Option T61) (x : T60) : Option T61 :=
  cond (decide (x.2.2.2.2.1 < (x.1.2.2.1.length : Int)))
    (ck (inB x.2.2.2.2.1 (x.1.2.2.1.length)) <|
    Option.bind (ref15_Subst (rdL t_api_Type x.1.2.2.1 x.2.2.2.2.1, x.2.1, ())) fun y4 =>
    ck (inB x.2.2.2.2.1 (x.2.2.1.length)) <|
    Option.bind (ref16_Flow (rdL t_api_Type x.2.2.1 x.2.2.2.2.1, y4.1, (5 : Int), IntKind.i64.wrap ((16 : Int) * x.2.2.2.2.1), ())) fun y5 =>
    cond (y5.2.1 != (0 : Int))
      (some (.inl (([] : List V_api_Prov), y5.2.1, x.1, x.2.2.2.1, ())))
      (ck (roomB (x.2.2.2.1 ++ y5.1).length 46) <|
      g (x.1, x.2.1, x.2.2.1, x.2.2.2.1 ++ y5.1, IntKind.i64.wrap (x.2.2.2.2.1 + (1 : Int)), ())))
    (some (.inr (.inl (x.2.2.2.1, x.1, ()))))
noncomputable def k85l2 : LCtr := ⟨[4, 1, 2, 11, 13], (.cons (.ptr q1) (.cons (.val (.lst (.int .i64))) (.cons (.val (.lst t_api_Type)) (.cons (.own t_api_Prov) (.cons (.val (.int .i64)) .nil))))), [some 0, none], [1, 4, 7], [⟨.ret, [8, 9, 4, 11], (.cons (.own t_api_Prov) (.cons (.val (.int .i64)) (.cons (.ptr q1) (.cons (.own t_api_Prov) .nil)))), [none, some 0, none]⟩, ⟨(.exit 2), [11, 4], (.cons (.own t_api_Prov) (.cons (.ptr q1) .nil)), [none, some 0]⟩], fun _ => [], lim ref17_Call_l24_step⟩
theorem k85s : LsOK Tryz.prog Tryz.f190.ntmps (codeOf Tryz.f190) [(24, k85l2), (16, k85l1)] := loop_E 24 k85l2 k85 (loop_E 16 k85l1 k85 trivial (by kernel_rfl) rfl (fun g x => by kernel_rfl)) (by kernel_rfl) rfl (fun g x => by kernel_rfl)
noncomputable def ref17_Call (x : T27) : Option ((List V_api_Prov) × Int × Unit) :=
  Option.bind (ref17_Check (x.1, ())) fun y1 =>
  cond (y1.1 != (0 : Int))
    (some (([] : List V_api_Prov), y1))
    (cond (cond ((x.2.1.length : Int) != x.1.1) true ((x.2.2.1.length : Int) != (x.1.2.2.1.length : Int)))
      (some (([] : List V_api_Prov), (2 : Int), ()))
      (Option.bind (lim ref17_Call_l16_step (x.1, x.2.1, ([] : List V_api_Prov), (0 : Int), ())) fun y2 => out1 y2
        (fun z3 =>
          Option.bind (lim ref17_Call_l24_step (z3.2.1, x.2.1, x.2.2.1, z3.1, (0 : Int), ())) fun y6 => out2 y6
            (fun z7 =>
              some (z7.1, z7.2.1, ()))
            (fun z8 =>
              Option.bind (ref15_Subst (z8.2.1.2.2.2, x.2.1, ())) fun y9 =>
              Option.bind (ref16_Flow (y9.1, x.2.2.2.1, (6 : Int), (0 : Int), ())) fun y10 =>
              cond (y10.2.1 != (0 : Int))
                (some (([] : List V_api_Prov), y10.2))
                (ck (roomB (z8.1 ++ y10.1).length 46) <|
                some (z8.1 ++ y10.1, (0 : Int), ()))))))
noncomputable def ref17_Call_c : Ctr := ⟨(.cons t_api_Sig (.cons (.lst (.int .i64)) (.cons (.lst t_api_Type) (.cons t_api_Type .nil)))), (.cons (.lst t_api_Prov) (.cons (.int .i64) .nil)), ref17_Call, none⟩
theorem ref17_Call_ok : CtrOK Tryz.prog 190 ref17_Call_c := fun_E k85 Tryz.func190 k85s (by kernel_rfl) (fun x => by kernel_rfl)
/-! ### easement/easementref19.Needs: function 148 -/
noncomputable def k86 : FE Tryz.prog := ⟨[(188, ref19_Form_c), (189, ref19_within_c), (185, ref16_Flow_c), (190, ref17_Call_c)], [], [], [], ⟨ref19_Form_ok, ref19_within_ok, ref16_Flow_ok, ref17_Call_ok, trivial⟩, trivial, trivial⟩
noncomputable def ref19_Needs_l30_step (g : T62 → Option T63) (x : T62) : Option T63 :=
  cond (decide (x.2.2.2.1 < (x.1.2.2.2.2.1.length : Int)))
    (ck (inB x.2.2.2.1 (x.1.2.2.2.2.1.length)) <|
    let v1 := rdL (.int .i64) x.1.2.2.2.2.1 x.2.2.2.1
    ck (inB v1 (x.2.1.2.2.1.length)) <|
    let v2 := x.2.2.1 ++ [rdL t_api_Type x.2.1.2.2.1 v1]
    ck (roomB v2.length 26) <|
    g (x.1, x.2.1, v2, IntKind.i64.wrap (x.2.2.2.1 + (1 : Int)), ()))
    (some (.inl (x.2.2.1, x.1, x.2.1, ())))
noncomputable def k86l1 : LCtr := ⟨[2, 3, 7, 8], (.cons (.ptr q29) (.cons (.ptr q40) (.cons (.own t_api_Type) (.cons (.val (.int .i64)) .nil)))), [some 0, some 1, none], [2, 3], [⟨(.exit 0), [7, 2, 3], (.cons (.own t_api_Type) (.cons (.ptr q29) (.cons (.ptr q40) .nil))), [none, some 0, some 1]⟩], fun _ => [], lim ref19_Needs_l30_step⟩
theorem k86s : LsOK Tryz.prog Tryz.f148.ntmps (codeOf Tryz.f148) [(30, k86l1)] := loop_E 30 k86l1 k86 trivial (by kernel_rfl) rfl (fun g x => by kernel_rfl)
noncomputable def ref19_Needs (x : (V_api_Term × V_term_Around × Unit)) : Option ((List V_api_Prov) × Int × Unit) :=
  Option.bind (ref19_Form (x.1, ())) fun y1 =>
  cond (y1.1 != (0 : Int))
    (some (([] : List V_api_Prov), y1))
    (Option.bind (ref19_within (x.1.2.2.2.1, x.2.1.1, ())) fun y2 =>
    cond (!(!y2.1))
      (Option.bind (ref19_within (x.1.2.2.2.2.1, (x.2.1.2.2.1.length : Int), ())) fun y3 =>
      cond (!(!y3.1))
        (Option.bind (ref19_within (x.1.2.2.2.2.2.1, x.2.1.2.1, ())) fun y4 =>
        cond (!y4.1)
          (some (([] : List V_api_Prov), (7 : Int), ()))
          (cond (x.1.1 == (4 : Int))
            (Option.bind (ref19_within ([x.1.2.2.1], (x.2.1.2.2.1.length : Int), ())) fun y5 =>
            cond (!(!y5.1))
              (Option.bind (ref19_within ([x.1.2.1], (x.2.1.2.2.2.2.1.length : Int), ())) fun y6 =>
              cond (!y6.1)
                (some (([] : List V_api_Prov), (7 : Int), ()))
                (cond (cond (x.1.1 == (3 : Int)) ((x.2.1.2.2.1.length : Int) == (0 : Int)) false)
                  (some (([] : List V_api_Prov), (14 : Int), ()))
                  (cond (x.1.1 == (3 : Int))
                    (ck (inB (0 : Int) (x.2.1.2.2.1.length)) <|
                    Option.bind (ref16_Flow (rdL t_api_Type x.2.1.2.2.1 (0 : Int), (x.2.1.2.2.2.1, ()), (7 : Int), (0 : Int), ())) fun y7 =>
                    some y7)
                    (cond (x.1.1 == (4 : Int))
                      (Option.bind (lim ref19_Needs_l30_step (x.1, x.2.1, ([] : List V_api_Type), (0 : Int), ())) fun y8 => out1 y8
                        (fun z9 =>
                          ck (inB z9.2.1.2.1 (z9.2.2.1.2.2.2.2.1.length)) <|
                          ck (inB z9.2.1.2.2.1 (z9.2.2.1.2.2.1.length)) <|
                          Option.bind (ref17_Call (rdL t_api_Sig z9.2.2.1.2.2.2.2.1 z9.2.1.2.1, z9.2.1.2.2.2.2.2.1, z9.1, rdL t_api_Type z9.2.2.1.2.2.1 z9.2.1.2.2.1, ())) fun y10 =>
                          some y10))
                      (some (([] : List V_api_Prov), (0 : Int), ()))))))
              (some (([] : List V_api_Prov), (7 : Int), ())))
            (cond (cond (x.1.1 == (3 : Int)) ((x.2.1.2.2.1.length : Int) == (0 : Int)) false)
              (some (([] : List V_api_Prov), (14 : Int), ()))
              (cond (x.1.1 == (3 : Int))
                (ck (inB (0 : Int) (x.2.1.2.2.1.length)) <|
                Option.bind (ref16_Flow (rdL t_api_Type x.2.1.2.2.1 (0 : Int), (x.2.1.2.2.2.1, ()), (7 : Int), (0 : Int), ())) fun y11 =>
                some y11)
                (cond (x.1.1 == (4 : Int))
                  (Option.bind (lim ref19_Needs_l30_step (x.1, x.2.1, ([] : List V_api_Type), (0 : Int), ())) fun y12 => out1 y12
                    (fun z13 =>
                      ck (inB z13.2.1.2.1 (z13.2.2.1.2.2.2.2.1.length)) <|
                      ck (inB z13.2.1.2.2.1 (z13.2.2.1.2.2.1.length)) <|
                      Option.bind (ref17_Call (rdL t_api_Sig z13.2.2.1.2.2.2.2.1 z13.2.1.2.1, z13.2.1.2.2.2.2.2.1, z13.1, rdL t_api_Type z13.2.2.1.2.2.1 z13.2.1.2.2.1, ())) fun y14 =>
                      some y14))
                  (some (([] : List V_api_Prov), (0 : Int), ())))))))
        (some (([] : List V_api_Prov), (7 : Int), ())))
      (some (([] : List V_api_Prov), (7 : Int), ())))
noncomputable def ref19_Needs_c : Ctr := ⟨(.cons t_api_Term (.cons t_term_Around .nil)), (.cons (.lst t_api_Prov) (.cons (.int .i64) .nil)), ref19_Needs, none⟩
theorem ref19_Needs_ok : CtrOK Tryz.prog 148 ref19_Needs_c := fun_E k86 Tryz.func148 k86s (by kernel_rfl) (fun x => by kernel_rfl)
/-! ### easement/easementref21.blocks: function 101 -/
noncomputable def k87 : FE Tryz.prog := ⟨[(147, ref18_Needs_c), (148, ref19_Needs_c)], [], [], [], ⟨ref18_Needs_ok, ref19_Needs_ok, trivial⟩, trivial, trivial⟩
noncomputable def ref21_blocks_l14_step (g : (V_api_Body × V_valid_Fault × Int × Int × Unit) → Option T52) (x : (V_api_Body × V_valid_Fault × Int × Int × Unit)) : Option T52 :=
  cond (decide (x.2.2.2.1 < (x.1.2.2.2.2.2.2.1.length : Int)))
    (ck (inB x.2.2.2.1 (x.1.2.2.2.2.2.2.1.length)) <|
    let v1 := IntKind.i64.wrap (x.2.2.1 + ((rdL t_api_Block x.1.2.2.2.2.2.2.1 x.2.2.2.1).1.length : Int))
    cond (decide (v1 > (65536 : Int)))
      (some (.inl (x.1, ((6 : Int), (5 : Int), x.2.2.2.1, (0 : Int), ()), ())))
      (g (x.1, x.2.1, v1, IntKind.i64.wrap (x.2.2.2.1 + (1 : Int)), ())))
    (some (.inr (.inl (x.1, x.2.1, ()))))
noncomputable def k87l1 : LCtr := ⟨[1, 2, 3, 4], (.cons (.ptr q2) (.cons (.ptr q46) (.cons (.val (.int .i64)) (.cons (.val (.int .i64)) .nil)))), [some 0, some 1], [1, 2], [⟨.ret, [1, 2], (.cons (.ptr q2) (.cons (.ptr q46) .nil)), [some 0, some 1]⟩, ⟨(.exit 0), [1, 2], (.cons (.ptr q2) (.cons (.ptr q46) .nil)), [some 0, some 1]⟩], fun _ => [], lim ref21_blocks_l14_step⟩
noncomputable def ref21_blocks_l36_step (g : T64 → Option T52) (x : T64) : Option T52 :=
  cond (decide (x.2.2.2.2.1 < (x.2.2.2.1.length : Int)))
    (ck (inB x.2.2.2.2.1 (x.2.2.2.1.length)) <|
    Option.bind (ref18_Needs (rdL t_api_Prov x.2.2.2.1 x.2.2.2.2.1, x.1.2.2.2.1, x.1.2.1, ())) fun y4 =>
    cond (y4.2.1 != (0 : Int))
      (some (.inl (x.1, (y4.2.1, (6 : Int), x.2.2.1, x.2.2.2.2), ())))
      (g (x.1, x.2.1, x.2.2.1, x.2.2.2.1, IntKind.i64.wrap (x.2.2.2.2.1 + (1 : Int)), ())))
    (some (.inr (.inl (x.1, x.2.1, ()))))
noncomputable def k87l2 : LCtr := ⟨[1, 2, 6, 7, 8], (.cons (.ptr q2) (.cons (.ptr q46) (.cons (.val (.int .i64)) (.cons (.val (.lst t_api_Prov)) (.cons (.val (.int .i64)) .nil))))), [some 0, some 1], [1, 2, 5, 6], [⟨.ret, [1, 2], (.cons (.ptr q2) (.cons (.ptr q46) .nil)), [some 0, some 1]⟩, ⟨(.exit 4), [1, 2], (.cons (.ptr q2) (.cons (.ptr q46) .nil)), [some 0, some 1]⟩], fun _ => [], lim ref21_blocks_l36_step⟩
noncomputable def ref21_blocks_l28_step (g : (V_api_Body × V_valid_Fault × V_term_Around × Int × Unit) → Option T65) (x : (V_api_Body × V_valid_Fault × V_term_Around × Int × Unit)) : Option T65 :=
  cond (decide (x.2.2.2.1 < (x.1.2.2.2.2.2.2.1.length : Int)))
    (ck (inB x.2.2.2.1 (x.1.2.2.2.2.2.2.1.length)) <|
    Option.bind (lim ref21_blocks_l36_step (x.1, x.2.1, x.2.2.2.1, (rdL t_api_Block x.1.2.2.2.2.2.2.1 x.2.2.2.1).1, (0 : Int), ())) fun y5 => out2 y5
      (fun z6 =>
        some (.inl (z6.1, z6.2.1, x.2.2.1, ())))
      (fun z7 =>
        ck (inB x.2.2.2.1 (z7.1.2.2.2.2.2.2.1.length)) <|
        Option.bind (ref19_Needs ((rdL t_api_Block z7.1.2.2.2.2.2.2.1 x.2.2.2.1).2, x.2.2.1, ())) fun y8 =>
        cond (y8.2.1 != (0 : Int))
          (some (.inl (z7.1, (y8.2.1, (7 : Int), x.2.2.2.1, (0 : Int), ()), x.2.2.1, ())))
          (g (z7.1, z7.2.1, x.2.2.1, IntKind.i64.wrap (x.2.2.2.1 + (1 : Int)), ()))))
    (some (.inr (.inl (x.1, x.2.1, x.2.2.1, ()))))
noncomputable def k87l3 : LCtr := ⟨[1, 2, 5, 6], (.cons (.ptr q2) (.cons (.ptr q46) (.cons (.ptr q40) (.cons (.val (.int .i64)) .nil)))), [some 0, some 1, some 2], [2], [⟨.ret, [1, 2, 5], (.cons (.ptr q2) (.cons (.ptr q46) (.cons (.ptr q40) .nil))), [some 0, some 1, some 2]⟩, ⟨(.exit 2), [1, 2, 5], (.cons (.ptr q2) (.cons (.ptr q46) (.cons (.ptr q40) .nil))), [some 0, some 1, some 2]⟩], fun _ => [], lim ref21_blocks_l28_step⟩
theorem k87s : LsOK Tryz.prog Tryz.f101.ntmps (codeOf Tryz.f101) [(28, k87l3), (36, k87l2), (14, k87l1)] := loop_E 28 k87l3 k87 (loop_E 36 k87l2 k87 (loop_E 14 k87l1 k87 trivial (by kernel_rfl) rfl (fun g x => by kernel_rfl)) (by kernel_rfl) rfl (fun g x => by kernel_rfl)) (by kernel_rfl) rfl (fun g x => by kernel_rfl)
noncomputable def ref21_blocks (x : (V_api_Body × Unit)) : Option (V_valid_Fault × Unit) :=
  cond ((x.1.2.2.2.2.2.2.1.length : Int) == (0 : Int))
    (some (((14 : Int), (5 : Int), (0 : Int), (0 : Int), ()), ()))
    (cond (decide ((x.1.2.2.2.2.2.2.1.length : Int) > (65536 : Int)))
      (some (((6 : Int), (5 : Int), (0 : Int), (0 : Int), ()), ()))
      (Option.bind (lim ref21_blocks_l14_step (x.1, ((0 : Int), (0 : Int), (0 : Int), (0 : Int), ()), (0 : Int), (0 : Int), ())) fun y1 => out2 y1
        (fun z2 =>
          some z2.2)
        (fun z3 =>
          Option.bind (lim ref21_blocks_l28_step (z3.1, z3.2.1, ((z3.1.2.2.2.2.2.2.1.length : Int), z3.1.2.1, z3.1.2.2.2.1, z3.1.2.2.2.2.1, z3.1.2.2.2.2.2.1, ()), (0 : Int), ())) fun y9 => out2 y9
            (fun z10 =>
              some (z10.2.1, ()))
            (fun z11 =>
              some (((0 : Int), (0 : Int), (0 : Int), (0 : Int), ()), ())))))
noncomputable def ref21_blocks_c : Ctr := ⟨(.cons t_api_Body .nil), (.cons t_valid_Fault .nil), ref21_blocks, none⟩
theorem ref21_blocks_ok : CtrOK Tryz.prog 101 ref21_blocks_c := fun_E k87 Tryz.func101 k87s (by kernel_rfl) (fun x => by kernel_rfl)
/-! ### easement/easementref21.Check: function 77 -/
noncomputable def k88 : FE Tryz.prog := ⟨[(99, ref21_head_c), (100, ref21_types_c), (101, ref21_blocks_c)], [], [], [], ⟨ref21_head_ok, ref21_types_ok, ref21_blocks_ok, trivial⟩, trivial, trivial⟩
noncomputable def ref21_Check (x : (V_api_Body × Unit)) : Option (V_valid_Fault × Unit) :=
  Option.bind (ref21_head x) fun y1 =>
  cond (y1.1.1 != (0 : Int))
    (some y1)
    (Option.bind (ref21_types x) fun y2 =>
    cond (y2.1.1 != (0 : Int))
      (some y2)
      (Option.bind (ref21_blocks x) fun y3 =>
      some y3))
noncomputable def ref21_Check_c : Ctr := ⟨(.cons t_api_Body .nil), (.cons t_valid_Fault .nil), ref21_Check, none⟩
theorem ref21_Check_ok : CtrOK Tryz.prog 77 ref21_Check_c := fun_E (ls := []) k88 Tryz.func77 trivial (by kernel_rfl) (fun x => by kernel_rfl)
/-! ### easement/easementref21.OK: function 54 -/
noncomputable def k89 : FE Tryz.prog := ⟨[(77, ref21_Check_c)], [], [], [], ⟨ref21_Check_ok, trivial⟩, trivial, trivial⟩
noncomputable def ref21_OK (x : (V_api_Body × Unit)) : Option (Bool × Unit) :=
  Option.bind (ref21_Check x) fun y1 =>
  some (y1.1.1 == (0 : Int), ())
noncomputable def ref21_OK_c : Ctr := ⟨(.cons t_api_Body .nil), (.cons .bool .nil), ref21_OK, none⟩
theorem ref21_OK_ok : CtrOK Tryz.prog 54 ref21_OK_c := fun_E (ls := []) k89 Tryz.func54 trivial (by kernel_rfl) (fun x => by kernel_rfl)
/-! ### easement/easementref22.All: function 12 -/
noncomputable def k90 : FE Tryz.prog := ⟨[(54, ref21_OK_c)], [], [], [], ⟨ref21_OK_ok, trivial⟩, trivial, trivial⟩
noncomputable def ref22_All_l18_step (g : ((List V_easementref22_Point) × Int × Int × Int × Unit) → Option (((List V_easementref22_Point) × Unit) ⊕ Empty)) (x : ((List V_easementref22_Point) × Int × Int × Int × Unit)) : Option (((List V_easementref22_Point) × Unit) ⊕ Empty) :=
  cond (decide (x.2.2.2.1 ≤ x.2.2.1))
    (let v1 := x.1 ++ [(x.2.1, x.2.2.2.1, x.2.2.2.1 == x.2.2.1, ())]
    ck (roomB v1.length 28) <|
    g (v1, x.2.1, x.2.2.1, IntKind.i64.wrap (x.2.2.2.1 + (1 : Int)), ()))
    (some (.inl (x.1, ())))
noncomputable def k90l1 : LCtr := ⟨[3, 4, 5, 6], (.cons (.own t_easementref22_Point) (.cons (.val (.int .i64)) (.cons (.val (.int .i64)) (.cons (.val (.int .i64)) .nil)))), [none], [1, 4], [⟨(.exit 2), [3], (.cons (.own t_easementref22_Point) .nil), [none]⟩], fun _ => [], lim ref22_All_l18_step⟩
noncomputable def ref22_All_l10_step (g : (V_api_Body × (List V_easementref22_Point) × Int × Unit) → Option T66) (x : (V_api_Body × (List V_easementref22_Point) × Int × Unit)) : Option T66 :=
  cond (decide (x.2.2.1 < (x.1.2.2.2.2.2.2.1.length : Int)))
    (ck (inB x.2.2.1 (x.1.2.2.2.2.2.2.1.length)) <|
    Option.bind (lim ref22_All_l18_step (x.2.1, x.2.2.1, ((rdL t_api_Block x.1.2.2.2.2.2.2.1 x.2.2.1).1.length : Int), (0 : Int), ())) fun y2 => out1 y2
      (fun z3 =>
        g (x.1, z3.1, IntKind.i64.wrap (x.2.2.1 + (1 : Int)), ())))
    (some (.inl (x.2.1, x.1, ())))
noncomputable def k90l2 : LCtr := ⟨[1, 3, 4], (.cons (.ptr q2) (.cons (.own t_easementref22_Point) (.cons (.val (.int .i64)) .nil))), [some 0, none], [], [⟨(.exit 0), [3, 1], (.cons (.own t_easementref22_Point) (.cons (.ptr q2) .nil)), [none, some 0]⟩], fun _ => [], lim ref22_All_l10_step⟩
theorem k90s : LsOK Tryz.prog Tryz.f12.ntmps (codeOf Tryz.f12) [(10, k90l2), (18, k90l1)] := loop_E 10 k90l2 k90 (loop_E 18 k90l1 k90 trivial (by kernel_rfl) rfl (fun g x => by kernel_rfl)) (by kernel_rfl) rfl (fun g x => by kernel_rfl)
noncomputable def ref22_All (x : (V_api_Body × Unit)) : Option ((List V_easementref22_Point) × Unit) :=
  Option.bind (ref21_OK x) fun y1 =>
  cond (!y1.1)
    (some (([] : List V_easementref22_Point), ()))
    (Option.bind (lim ref22_All_l10_step (x.1, ([] : List V_easementref22_Point), (0 : Int), ())) fun y4 => out1 y4
      (fun z5 =>
        some (z5.1, ())))
noncomputable def ref22_All_c : Ctr := ⟨(.cons t_api_Body .nil), (.cons (.lst t_easementref22_Point) .nil), ref22_All, none⟩
theorem ref22_All_ok : CtrOK Tryz.prog 12 ref22_All_c := fun_E k90 Tryz.func12 k90s (by kernel_rfl) (fun x => by kernel_rfl)
/-! ### easement/easementref22.Of: function 87 -/
noncomputable def ref22_Of_l4_step (g : ((List V_easementref22_Point) × Int × Int × Int × Unit) → Option (V_api_Slot ⊕ (Unit ⊕ Empty))) (x : ((List V_easementref22_Point) × Int × Int × Int × Unit)) : Option (V_api_Slot ⊕ (Unit ⊕ Empty)) :=
  cond (decide (x.2.2.2.1 < (x.1.length : Int)))
    (ck (inB x.2.2.2.1 (x.1.length)) <|
    let v1 := (rdL t_easementref22_Point x.1 x.2.2.2.1).1 == x.2.1
    ck ((inB x.2.2.2.1 (x.1.length)) || !v1) <|
    cond (cond v1 ((rdL t_easementref22_Point x.1 x.2.2.2.1).2.1 == x.2.2.1) false)
      (some (.inl (x.2.2.2.1, true, ())))
      (g (x.1, x.2.1, x.2.2.1, IntKind.i64.wrap (x.2.2.2.1 + (1 : Int)), ())))
    (some (.inr (.inl ())))
noncomputable def k91l1 : LCtr := ⟨[0, 1, 2, 8], (.cons (.val (.lst t_easementref22_Point)) (.cons (.val (.int .i64)) (.cons (.val (.int .i64)) (.cons (.val (.int .i64)) .nil)))), [], [], [⟨.ret, [6, 7], (.cons (.val (.int .i64)) (.cons (.val .bool) .nil)), []⟩, ⟨(.exit 0), [], .nil, []⟩], fun _ => [], lim ref22_Of_l4_step⟩
theorem k91s : LsOK Tryz.prog Tryz.f87.ntmps (codeOf Tryz.f87) [(4, k91l1)] := loop_E 4 k91l1 k0 trivial (by kernel_rfl) rfl (fun g x => by kernel_rfl)
noncomputable def ref22_Of (x : ((List V_easementref22_Point) × Int × Int × Unit)) : Option (Int × Bool × Unit) :=
  Option.bind (lim ref22_Of_l4_step (x.1, x.2.1, x.2.2.1, (0 : Int), ())) fun y1 => out2 y1
    (fun z2 =>
      some z2)
    (fun z3 =>
      some ((0 : Int), false, ()))
noncomputable def ref22_Of_c : Ctr := ⟨(.cons (.lst t_easementref22_Point) (.cons (.int .i64) (.cons (.int .i64) .nil))), (.cons (.int .i64) (.cons .bool .nil)), ref22_Of, none⟩
theorem ref22_Of_ok : CtrOK Tryz.prog 87 ref22_Of_c := fun_E k0 Tryz.func87 k91s (by kernel_rfl) (fun x => by kernel_rfl)
/-! ### easement/easementref23.Goes: function 64 -/
noncomputable def k92 : FE Tryz.prog := ⟨[(87, ref22_Of_c)], [], [], [], ⟨ref22_Of_ok, trivial⟩, trivial, trivial⟩
noncomputable def ref23_Goes_l10_step (g : T67 → Option ((Bool × Unit) ⊕ (Unit ⊕ Empty))) (x : T67) : Option ((Bool × Unit) ⊕ (Unit ⊕ Empty)) :=
  cond (decide (x.2.2.2.1 < (x.2.2.1.length : Int)))
    (ck (inB x.2.2.2.1 (x.2.2.1.length)) <|
    Option.bind (ref22_Of (x.1, rdL (.int .i64) x.2.2.1 x.2.2.2.1, (0 : Int), ())) fun y1 =>
    cond (cond y1.2.1 (y1.1 == x.2.1) false)
      (some (.inl (true, ())))
      (g (x.1, x.2.1, x.2.2.1, IntKind.i64.wrap (x.2.2.2.1 + (1 : Int)), ())))
    (some (.inr (.inl ())))
noncomputable def k92l1 : LCtr := ⟨[1, 3, 9, 10], (.cons (.val (.lst t_easementref22_Point)) (.cons (.val (.int .i64)) (.cons (.val (.lst (.int .i64))) (.cons (.val (.int .i64)) .nil)))), [], [], [⟨.ret, [8], (.cons (.val .bool) .nil), []⟩, ⟨(.exit 0), [], .nil, []⟩], fun _ => [], lim ref23_Goes_l10_step⟩
theorem k92s : LsOK Tryz.prog Tryz.f64.ntmps (codeOf Tryz.f64) [(10, k92l1)] := loop_E 10 k92l1 k92 trivial (by kernel_rfl) rfl (fun g x => by kernel_rfl)
noncomputable def ref23_Goes (x : (V_api_Body × (List V_easementref22_Point) × Int × Int × Unit)) : Option (Bool × Unit) :=
  ck (inB x.2.2.1 (x.2.1.length)) <|
  cond (!(rdL t_easementref22_Point x.2.1 x.2.2.1).2.2.1)
    (some (x.2.2.2.1 == (IntKind.i64.wrap (x.2.2.1 + (1 : Int))), ()))
    (ck (inB x.2.2.1 (x.2.1.length)) <|
    let v1 := (rdL t_easementref22_Point x.2.1 x.2.2.1).1
    ck (inB v1 (x.1.2.2.2.2.2.2.1.length)) <|
    Option.bind (lim ref23_Goes_l10_step (x.2.1, x.2.2.2.1, (rdL t_api_Block x.1.2.2.2.2.2.2.1 v1).2.2.2.2.1, (0 : Int), ())) fun y2 => out2 y2
      (fun z3 =>
        some z3)
      (fun z4 =>
        some (false, ())))
noncomputable def ref23_Goes_c : Ctr := ⟨(.cons t_api_Body (.cons (.lst t_easementref22_Point) (.cons (.int .i64) (.cons (.int .i64) .nil)))), (.cons .bool .nil), ref23_Goes, none⟩
theorem ref23_Goes_ok : CtrOK Tryz.prog 64 ref23_Goes_c := fun_E k92 Tryz.func64 k92s (by kernel_rfl) (fun x => by kernel_rfl)
/-! ### easement/easementref23.Arcs: function 23 -/
noncomputable def k93 : FE Tryz.prog := ⟨[(12, ref22_All_c), (64, ref23_Goes_c)], [], [], [], ⟨ref22_All_ok, ref23_Goes_ok, trivial⟩, trivial, trivial⟩
noncomputable def ref23_Arcs_j53_v (x : ((List V_easementref08_Pair) × Int × Int × Bool × Unit)) : Option (((List V_easementref08_Pair) × Unit) ⊕ Empty) :=
  cond (x.2.2.2.1)
    (let v1 := x.1 ++ [(x.2.1, x.2.2.1, ())]
    ck (roomB v1.length 19) <|
    some (.inl (v1, ())))
    (some (.inl (x.1, ())))
noncomputable def k93l1 : LCtr := ⟨[4, 5, 6, 26], (.cons (.own t_easementref08_Pair) (.cons (.val (.int .i64)) (.cons (.val (.int .i64)) (.cons (.val .bool) .nil)))), [], [1, 3, 5, 6], [⟨.normal, [4], (.cons (.own t_easementref08_Pair) .nil), [none]⟩], fun _ => [], ref23_Arcs_j53_v⟩
noncomputable def ref23_Arcs_l14_step (g : T69 → Option (((List V_easementref08_Pair) × V_api_Body × Unit) ⊕ Empty)) (x : T69) : Option (((List V_easementref08_Pair) × V_api_Body × Unit) ⊕ Empty) :=
  cond (decide (x.2.2.2.2.1 < (x.2.1.length : Int)))
    (Option.bind (ref23_Goes (x.1, x.2.1, x.2.2.2)) fun y2 =>
    Option.bind (ref23_Arcs_j53_v (x.2.2.1, x.2.2.2.1, x.2.2.2.2.1, y2)) fun y3 => out1 y3
      (fun z4 =>
        g (x.1, x.2.1, z4.1, x.2.2.2.1, IntKind.i64.wrap (x.2.2.2.2.1 + (1 : Int)), ())))
    (some (.inl (x.2.2.1, x.1, ())))
noncomputable def k93l2 : LCtr := ⟨[1, 3, 4, 5, 6], (.cons (.ptr q2) (.cons (.val (.lst t_easementref22_Point)) (.cons (.own t_easementref08_Pair) (.cons (.val (.int .i64)) (.cons (.val (.int .i64)) .nil))))), [some 0, none], [1, 3, 5], [⟨(.exit 2), [4, 1], (.cons (.own t_easementref08_Pair) (.cons (.ptr q2) .nil)), [none, some 0]⟩], fun _ => [], lim ref23_Arcs_l14_step⟩
noncomputable def ref23_Arcs_l8_step (g : T70 → Option (((List V_easementref08_Pair) × V_api_Body × Unit) ⊕ Empty)) (x : T70) : Option (((List V_easementref08_Pair) × V_api_Body × Unit) ⊕ Empty) :=
  cond (decide (x.2.2.2.1 < (x.2.1.length : Int)))
    (Option.bind (lim ref23_Arcs_l14_step (x.1, x.2.1, x.2.2.1, x.2.2.2.1, (0 : Int), ())) fun y5 => out1 y5
      (fun z6 =>
        g (z6.2.1, x.2.1, z6.1, IntKind.i64.wrap (x.2.2.2.1 + (1 : Int)), ())))
    (some (.inl (x.2.2.1, x.1, ())))
noncomputable def k93l3 : LCtr := ⟨[1, 3, 4, 5], (.cons (.ptr q2) (.cons (.val (.lst t_easementref22_Point)) (.cons (.own t_easementref08_Pair) (.cons (.val (.int .i64)) .nil)))), [some 0, none], [], [⟨(.exit 0), [4, 1], (.cons (.own t_easementref08_Pair) (.cons (.ptr q2) .nil)), [none, some 0]⟩], fun _ => [], lim ref23_Arcs_l8_step⟩
theorem k93s : LsOK Tryz.prog Tryz.f23.ntmps (codeOf Tryz.f23) [(8, k93l3), (14, k93l2), (1310773, k93l1)] := loop_E 8 k93l3 k93 (loop_E 14 k93l2 k93 (join_E 1310773 k93l1 k93 trivial (by kernel_rfl) (fun x => by kernel_rfl)) (by kernel_rfl) rfl (fun g x => by kernel_rfl)) (by kernel_rfl) rfl (fun g x => by kernel_rfl)
noncomputable def ref23_Arcs (x : (V_api_Body × Unit)) : Option ((List V_easementref08_Pair) × Unit) :=
  Option.bind (ref22_All x) fun y1 =>
  Option.bind (lim ref23_Arcs_l8_step (x.1, y1.1, ([] : List V_easementref08_Pair), (0 : Int), ())) fun y7 => out1 y7
    (fun z8 =>
      some (z8.1, ()))
noncomputable def ref23_Arcs_c : Ctr := ⟨(.cons t_api_Body .nil), (.cons (.lst t_easementref08_Pair) .nil), ref23_Arcs, none⟩
theorem ref23_Arcs_ok : CtrOK Tryz.prog 23 ref23_Arcs_c := fun_E k93 Tryz.func23 k93s (by kernel_rfl) (fun x => by kernel_rfl)
/-! ### easement/easementref10.Next: function 30 -/
noncomputable def ref10_Next_j41_v (x : ((List V_easementref08_Pair) × (List Int) × Int × Bool × Unit)) : Option (V_point_Points ⊕ Empty) :=
  cond (x.2.2.2.1)
    (ck (inB x.2.2.1 (x.1.length)) <|
    let v1 := x.2.1 ++ [(rdL t_easementref08_Pair x.1 x.2.2.1).2.1]
    ck (roomB v1.length 10) <|
    some (.inl (v1, ())))
    (some (.inl (x.2.1, ())))
noncomputable def k94l1 : LCtr := ⟨[0, 5, 6, 20], (.cons (.val (.lst t_easementref08_Pair)) (.cons (.own (.int .i64)) (.cons (.val (.int .i64)) (.cons (.val .bool) .nil)))), [], [0, 1, 6], [⟨.normal, [5], (.cons (.own (.int .i64)) .nil), [none]⟩], fun _ => [], ref10_Next_j41_v⟩
noncomputable def ref10_Next_l6_step (g : T72 → Option (V_point_Points ⊕ Empty)) (x : T72) : Option (V_point_Points ⊕ Empty) :=
  cond (decide (x.2.2.2.1 < (x.1.length : Int)))
    (ck (inB x.2.2.2.1 (x.1.length)) <|
    Option.bind (ref10_Next_j41_v (x.1, x.2.2.1, x.2.2.2.1, (rdL t_easementref08_Pair x.1 x.2.2.2.1).1 == x.2.1, ())) fun y1 => out1 y1
      (fun z2 =>
        g (x.1, x.2.1, z2.1, IntKind.i64.wrap (x.2.2.2.1 + (1 : Int)), ())))
    (some (.inl (x.2.2.1, ())))
noncomputable def k94l2 : LCtr := ⟨[0, 1, 5, 6], (.cons (.val (.lst t_easementref08_Pair)) (.cons (.val (.int .i64)) (.cons (.own (.int .i64)) (.cons (.val (.int .i64)) .nil)))), [none], [], [⟨(.exit 0), [5], (.cons (.own (.int .i64)) .nil), [none]⟩], fun _ => [], lim ref10_Next_l6_step⟩
theorem k94s : LsOK Tryz.prog Tryz.f30.ntmps (codeOf Tryz.f30) [(6, k94l2), (786473, k94l1)] := loop_E 6 k94l2 k0 (join_E 786473 k94l1 k0 trivial (by kernel_rfl) (fun x => by kernel_rfl)) (by kernel_rfl) rfl (fun g x => by kernel_rfl)
noncomputable def ref10_Next (x : ((List V_easementref08_Pair) × Int × Unit)) : Option ((List Int) × Unit) :=
  Option.bind (lim ref10_Next_l6_step (x.1, x.2.1, ([] : List Int), (0 : Int), ())) fun y3 => out1 y3
    (fun z4 =>
      some z4)
noncomputable def ref10_Next_c : Ctr := ⟨(.cons (.lst t_easementref08_Pair) (.cons (.int .i64) .nil)), (.cons (.lst (.int .i64)) .nil), ref10_Next, none⟩
theorem ref10_Next_ok : CtrOK Tryz.prog 30 ref10_Next_c := fun_E k0 Tryz.func30 k94s (by kernel_rfl) (fun x => by kernel_rfl)
/-! ### easement/easementref23.through: function 63, at objects; it calls itself -/
noncomputable def k95L (r : T73 → Option (((List Int) × (List Int) × Unit) ⊕ Empty)) : LCtr := ⟨[0, 1, 2, 3], (.cons (.val (.lst t_easementref08_Pair)) (.cons (.own (.int .i64)) (.cons (.own (.int .i64)) (.cons (.val (.int .i64)) .nil)))), [], [], [⟨.ret, [8, 9], (.cons (.own (.int .i64)) (.cons (.own (.int .i64)) .nil)), [none, none]⟩], fun _ => [], r⟩
noncomputable def k95 (r : T73 → Option (((List Int) × (List Int) × Unit) ⊕ Empty)) (hr : PIOK Tryz.prog 63 (mkPI Tryz.f63 (k95L r))) : FE Tryz.prog := ⟨[(30, ref10_Next_c)], [(63, [mkPI Tryz.f63 (k95L r)])], [], [], ⟨ref10_Next_ok, trivial⟩, ⟨⟨hr, trivial⟩, trivial⟩, trivial⟩
noncomputable def ref23_through_p0_l16_step (r : T73 → Option (((List Int) × (List Int) × Unit) ⊕ Empty)) (g : ((List Int) × (List Int) × Int × Bool × Int × Unit) → Option ((Bool × (List Int) × Unit) ⊕ Empty)) (x : ((List Int) × (List Int) × Int × Bool × Int × Unit)) : Option ((Bool × (List Int) × Unit) ⊕ Empty) :=
  cond (decide (x.2.2.2.2.1 < (x.1.length : Int)))
    (ck ((inB x.2.2.2.2.1 (x.1.length)) || !(!x.2.2.2.1)) <|
    ck ((inB x.2.2.1 (x.2.1.length)) || !(!x.2.2.2.1)) <|
    g (x.1, x.2.1, x.2.2.1, cond x.2.2.2.1 true ((x.1.getD x.2.2.2.2.1.toNat (Ty.dflt (.int .i64))) == (rdL (.int .i64) x.2.1 x.2.2.1)), IntKind.i64.wrap (x.2.2.2.2.1 + (1 : Int)), ()))
    (some (.inl (x.2.2.2.1, x.1, ())))
noncomputable def k95l1 (r : T73 → Option (((List Int) × (List Int) × Unit) ⊕ Empty)) : LCtr := ⟨[2, 10, 11, 12, 13], (.cons (.own (.int .i64)) (.cons (.val (.lst (.int .i64))) (.cons (.val (.int .i64)) (.cons (.val .bool) (.cons (.val (.int .i64)) .nil))))), [some 0], [0, 1, 2, 10, 11], [⟨(.exit 2), [12, 2], (.cons (.val .bool) (.cons (.own (.int .i64)) .nil)), [some 0]⟩], fun _ => [], lim (ref23_through_p0_l16_step r)⟩
noncomputable def ref23_through_p0_j97_v (r : T73 → Option (((List Int) × (List Int) × Unit) ⊕ Empty)) (x : ((List V_easementref08_Pair) × (List Int) × (List Int) × (List Int) × Int × Bool × Unit)) : Option (((List Int) × (List Int) × Unit) ⊕ Empty) :=
  cond (x.2.2.2.2.2.1)
    (ck (inB x.2.2.2.2.1 (x.2.2.2.1.length)) <|
    Option.bind (r (x.1, x.2.1, x.2.2.1, rdL (.int .i64) x.2.2.2.1 x.2.2.2.2.1, ())) fun y4 => out1 y4
      (fun z5 =>
        some (.inl z5)))
    (some (.inl (x.2.1, x.2.2.1, ())))
noncomputable def k95l2 (r : T73 → Option (((List Int) × (List Int) × Unit) ⊕ Empty)) : LCtr := ⟨[0, 1, 2, 10, 11, 48], (.cons (.val (.lst t_easementref08_Pair)) (.cons (.own (.int .i64)) (.cons (.own (.int .i64)) (.cons (.val (.lst (.int .i64))) (.cons (.val (.int .i64)) (.cons (.val .bool) .nil)))))), [], [0, 10, 11], [⟨.normal, [1, 2], (.cons (.own (.int .i64)) (.cons (.own (.int .i64)) .nil)), [none, none]⟩], fun _ => [], ref23_through_p0_j97_v r⟩
noncomputable def ref23_through_p0_l8_step (r : T73 → Option (((List Int) × (List Int) × Unit) ⊕ Empty)) (g : T75 → Option (((List Int) × (List Int) × Unit) ⊕ Empty)) (x : T75) : Option (((List Int) × (List Int) × Unit) ⊕ Empty) :=
  cond (decide (x.2.2.2.2.1 < (x.2.2.2.1.length : Int)))
    (Option.bind (lim (ref23_through_p0_l16_step r) (x.2.2.1, x.2.2.2.1, x.2.2.2.2.1, false, (0 : Int), ())) fun y2 => out1 y2
      (fun z3 =>
        Option.bind (ref23_through_p0_j97_v r (x.1, x.2.1, z3.2.1, x.2.2.2.1, x.2.2.2.2.1, !z3.1, ())) fun y6 => out1 y6
          (fun z7 =>
            g (x.1, z7.1, z7.2.1, x.2.2.2.1, IntKind.i64.wrap (x.2.2.2.2.1 + (1 : Int)), ()))))
    (some (.inl (x.2.1, x.2.2.1, ())))
noncomputable def k95l3 (r : T73 → Option (((List Int) × (List Int) × Unit) ⊕ Empty)) : LCtr := ⟨[0, 1, 2, 10, 11], (.cons (.val (.lst t_easementref08_Pair)) (.cons (.own (.int .i64)) (.cons (.own (.int .i64)) (.cons (.val (.lst (.int .i64))) (.cons (.val (.int .i64)) .nil))))), [none, none], [0, 3], [⟨(.exit 0), [1, 2], (.cons (.own (.int .i64)) (.cons (.own (.int .i64)) .nil)), [none, none]⟩], fun _ => [], lim (ref23_through_p0_l8_step r)⟩
theorem k95s (r : T73 → Option (((List Int) × (List Int) × Unit) ⊕ Empty)) (hr : PIOK Tryz.prog 63 (mkPI Tryz.f63 (k95L r))) : LsOK Tryz.prog Tryz.f63.ntmps (codeOf Tryz.f63) [(8, k95l3 r), (1572961, k95l2 r), (16, k95l1 r)] := loop_E 8 (k95l3 r) (k95 r hr) (join_E 1572961 (k95l2 r) (k95 r hr) (loop_E 16 (k95l1 r) (k95 r hr) trivial (by kernel_rfl) rfl (fun g x => by kernel_rfl)) (by kernel_rfl) (fun x => by kernel_rfl)) (by kernel_rfl) rfl (fun g x => by kernel_rfl)
noncomputable def ref23_through_p0_step (r : T73 → Option (((List Int) × (List Int) × Unit) ⊕ Empty)) (x : T73) : Option (((List Int) × (List Int) × Unit) ⊕ Empty) :=
  ck (roomB (x.2.2.1 ++ [x.2.2.2.1]).length 10) <|
  Option.bind (ref10_Next (x.1, x.2.2.2)) fun y1 =>
  Option.bind (lim (ref23_through_p0_l8_step r) (x.1, x.2.1, x.2.2.1 ++ [x.2.2.2.1], y1.1, (0 : Int), ())) fun y8 => out1 y8
    (fun z9 =>
      ck (roomB (z9.1 ++ [x.2.2.2.1]).length 10) <|
      some (.inl (z9.1 ++ [x.2.2.2.1], z9.2)))
noncomputable def ref23_through_p0 : T73 → Option (((List Int) × (List Int) × Unit) ⊕ Empty) := lim ref23_through_p0_step
noncomputable def ref23_through_p0_c : PI := mkPI Tryz.f63 (k95L ref23_through_p0)
theorem ref23_through_p0_ok : PIOK Tryz.prog 63 ref23_through_p0_c := recP_E2 (k95L ref23_through_p0) ref23_through_p0_step fun r hr => proc_E (L := k95L (ref23_through_p0_step r)) (k95 r hr) Tryz.func63 (k95s r hr) (by kernel_rfl) (fun x => by kernel_rfl)
/-! ### easement/easementref23.Order: function 22 -/
noncomputable def k96 : FE Tryz.prog := ⟨[], [(63, [ref23_through_p0_c])], [], [], trivial, ⟨⟨ref23_through_p0_ok, trivial⟩, trivial⟩, trivial⟩
noncomputable def ref23_Order_l14_step (g : ((List Int) × Int × Bool × Int × Unit) → Option ((Bool × (List Int) × Unit) ⊕ Empty)) (x : ((List Int) × Int × Bool × Int × Unit)) : Option ((Bool × (List Int) × Unit) ⊕ Empty) :=
  cond (decide (x.2.2.2.1 < (x.1.length : Int)))
    (ck ((inB x.2.2.2.1 (x.1.length)) || !(!x.2.2.1)) <|
    g (x.1, x.2.1, cond x.2.2.1 true ((x.1.getD x.2.2.2.1.toNat (Ty.dflt (.int .i64))) == x.2.1), IntKind.i64.wrap (x.2.2.2.1 + (1 : Int)), ()))
    (some (.inl (x.2.2.1, x.1, ())))
noncomputable def k96l1 : LCtr := ⟨[6, 7, 8, 9], (.cons (.own (.int .i64)) (.cons (.val (.int .i64)) (.cons (.val .bool) (.cons (.val (.int .i64)) .nil)))), [some 0], [0, 1, 5, 6, 7], [⟨(.exit 2), [8, 6], (.cons (.val .bool) (.cons (.own (.int .i64)) .nil)), [some 0]⟩], fun _ => [], lim ref23_Order_l14_step⟩
noncomputable def ref23_Order_j71_v (x : ((List V_easementref08_Pair) × (List Int) × (List Int) × Int × Bool × Unit)) : Option (((List Int) × (List Int) × Unit) ⊕ Empty) :=
  cond (x.2.2.2.2.1)
    (Option.bind (ref23_through_p0 (x.1, x.2.1, x.2.2.1, x.2.2.2.1, ())) fun y3 => out1 y3
      (fun z4 =>
        some (.inl z4)))
    (some (.inl (x.2.1, x.2.2.1, ())))
noncomputable def k96l2 : LCtr := ⟨[1, 5, 6, 7, 35], (.cons (.val (.lst t_easementref08_Pair)) (.cons (.own (.int .i64)) (.cons (.own (.int .i64)) (.cons (.val (.int .i64)) (.cons (.val .bool) .nil))))), [], [0, 1, 7], [⟨.normal, [5, 6], (.cons (.own (.int .i64)) (.cons (.own (.int .i64)) .nil)), [none, none]⟩], fun _ => [], ref23_Order_j71_v⟩
noncomputable def ref23_Order_l6_step (g : T77 → Option (((List Int) × (List Int) × Unit) ⊕ Empty)) (x : T77) : Option (((List Int) × (List Int) × Unit) ⊕ Empty) :=
  cond (decide (x.2.2.2.2.1 < x.1))
    (Option.bind (lim ref23_Order_l14_step (x.2.2.2.1, x.2.2.2.2.1, false, (0 : Int), ())) fun y1 => out1 y1
      (fun z2 =>
        Option.bind (ref23_Order_j71_v (x.2.1, x.2.2.1, z2.2.1, x.2.2.2.2.1, !z2.1, ())) fun y5 => out1 y5
          (fun z6 =>
            g (x.1, x.2.1, z6.1, z6.2.1, IntKind.i64.wrap (x.2.2.2.2.1 + (1 : Int)), ()))))
    (some (.inl (x.2.2.1, x.2.2.2.1, ())))
noncomputable def k96l3 : LCtr := ⟨[0, 1, 5, 6, 7], (.cons (.val (.int .i64)) (.cons (.val (.lst t_easementref08_Pair)) (.cons (.own (.int .i64)) (.cons (.own (.int .i64)) (.cons (.val (.int .i64)) .nil))))), [none, none], [], [⟨(.exit 0), [5, 6], (.cons (.own (.int .i64)) (.cons (.own (.int .i64)) .nil)), [none, none]⟩], fun _ => [], lim ref23_Order_l6_step⟩
theorem k96s : LsOK Tryz.prog Tryz.f22.ntmps (codeOf Tryz.f22) [(6, k96l3), (1441863, k96l2), (14, k96l1)] := loop_E 6 k96l3 k96 (join_E 1441863 k96l2 k96 (loop_E 14 k96l1 k96 trivial (by kernel_rfl) rfl (fun g x => by kernel_rfl)) (by kernel_rfl) (fun x => by kernel_rfl)) (by kernel_rfl) rfl (fun g x => by kernel_rfl)
noncomputable def ref23_Order (x : (Int × (List V_easementref08_Pair) × Unit)) : Option ((List Int) × Unit) :=
  Option.bind (lim ref23_Order_l6_step (x.1, x.2.1, ([] : List Int), ([] : List Int), (0 : Int), ())) fun y7 => out1 y7
    (fun z8 =>
      some (z8.1, ()))
noncomputable def ref23_Order_c : Ctr := ⟨(.cons (.int .i64) (.cons (.lst t_easementref08_Pair) .nil)), (.cons (.lst (.int .i64)) .nil), ref23_Order, none⟩
theorem ref23_Order_ok : CtrOK Tryz.prog 22 ref23_Order_c := fun_E k96 Tryz.func22 k96s (by kernel_rfl) (fun x => by kernel_rfl)
/-! ### easement/easementlaw23.FlowOrders: function 4 -/
noncomputable def k97 : FE Tryz.prog := ⟨[(9, ref20_Small_c), (19, law23_awake_c), (20, flow_New_c), (21, flow_Flow_Order_c), (12, ref22_All_c), (23, ref23_Arcs_c), (22, ref23_Order_c), (17, ref01_Same_c)], [], [], [], ⟨ref20_Small_ok, law23_awake_ok, flow_New_ok, flow_Flow_Order_ok, ref22_All_ok, ref23_Arcs_ok, ref23_Order_ok, ref01_Same_ok, trivial⟩, trivial, trivial⟩
noncomputable def law23_FlowOrders (x : (V_api_Body × Unit)) : Option (Bool × Unit) :=
  Option.bind (ref20_Small x) fun y1 =>
  cond (!y1.1)
    (Option.bind (law23_awake ()) fun y2 =>
    some y2)
    (Option.bind (flow_New x) fun y3 =>
    Option.bind (flow_Flow_Order y3) fun y4 =>
    Option.bind (ref22_All x) fun y5 =>
    Option.bind (ref23_Arcs x) fun y6 =>
    Option.bind (ref23_Order ((y5.1.length : Int), y6)) fun y7 =>
    Option.bind (ref01_Same (y4.1, y7)) fun y8 =>
    cond (y8.1)
      (Option.bind (law23_awake ()) fun y9 =>
      some y9)
      (some (false, ())))
noncomputable def law23_FlowOrders_c : Ctr := ⟨(.cons t_api_Body .nil), (.cons .bool .nil), law23_FlowOrders, none⟩
theorem law23_FlowOrders_ok : CtrOK Tryz.prog 4 law23_FlowOrders_c := fun_E (ls := []) k97 Tryz.func4 trivial (by kernel_rfl) (fun x => by kernel_rfl)
/-! ### (*easement/graph.Graph).Turn: function 65 -/
noncomputable def graph_Graph_Turn_l10_step (g : T78 → Option ((V_graph_Graph × Unit) ⊕ Empty)) (x : T78) : Option ((V_graph_Graph × Unit) ⊕ Empty) :=
  cond (decide (x.2.2.2.1 < x.2.2.1))
    (ck (inB x.2.2.2.1 (x.2.1.length)) <|
    ck (inB x.2.2.2.1 (x.1.2.1.length)) <|
    let v1 := rdL t_easementref08_Pair x.2.1 x.2.2.2.1
    g ((x.1.1, x.1.2.1.set x.2.2.2.1.toNat (v1.2.1, v1.1, (x.1.2.1.getD x.2.2.2.1.toNat (Ty.dflt t_easementref08_Pair)).2.2), x.1.2.2), x.2.1, x.2.2.1, IntKind.i64.wrap (x.2.2.2.1 + (1 : Int)), ()))
    (some (.inl (x.1, ())))
noncomputable def k98l1 : LCtr := ⟨[3, 39, 40, 41], (.cons (.ptr q113) (.cons (.val (.lst t_easementref08_Pair)) (.cons (.val (.int .i64)) (.cons (.val (.int .i64)) .nil)))), [some 0, some 1], [3], [⟨(.exit 0), [3], (.cons (.ptr q113) .nil), [some 0, some 1]⟩], fun _ => [], lim graph_Graph_Turn_l10_step⟩
theorem k98s : LsOK Tryz.prog Tryz.f65.ntmps (codeOf Tryz.f65) [(10, k98l1)] := loop_E 10 k98l1 k0 trivial (by kernel_rfl) rfl (fun g x => by kernel_rfl)
noncomputable def graph_Graph_Turn (x : ((Option V_graph_Graph) × Unit)) : Option ((Option V_graph_Graph) × Unit) :=
  cond (x.1.isNone)
    (some ((none : Option V_graph_Graph), ()))
    (ck (x.1.isSome) <|
    ck (x.1.isSome) <|
    let v1 := ((x.1.getD (Ty.dflt (.cons (.int .i64) (.cons (.lst t_easementref08_Pair) (.cons (.lst (.int .i32)) (.cons (.lst (.int .i32)) (.cons (.lst (.int .i32)) (.cons (.lst (.int .i32)) .nil)))))))).2.1.length : Int)
    ck (decide (0 ≤ v1) && decide (v1 ≤ v1) && decide (v1 * ((19 : Nat) : Int) ≤ 35184372088832)) <|
    ck (x.1.isSome) <|
    ck (x.1.isSome) <|
    ck (x.1.isSome) <|
    ck (x.1.isSome) <|
    ck (x.1.isSome) <|
    let v2 := (x.1.getD (Ty.dflt (.cons (.int .i64) (.cons (.lst t_easementref08_Pair) (.cons (.lst (.int .i32)) (.cons (.lst (.int .i32)) (.cons (.lst (.int .i32)) (.cons (.lst (.int .i32)) .nil)))))))).2.1
    Option.bind (lim graph_Graph_Turn_l10_step (((x.1.getD (Ty.dflt (.cons (.int .i64) (.cons (.lst t_easementref08_Pair) (.cons (.lst (.int .i32)) (.cons (.lst (.int .i32)) (.cons (.lst (.int .i32)) (.cons (.lst (.int .i32)) .nil)))))))).1, List.replicate v1.toNat (((0 : Int), (0 : Int), ()) : V_easementref08_Pair), (x.1.getD (Ty.dflt (.cons (.int .i64) (.cons (.lst t_easementref08_Pair) (.cons (.lst (.int .i32)) (.cons (.lst (.int .i32)) (.cons (.lst (.int .i32)) (.cons (.lst (.int .i32)) .nil)))))))).2.2.2.1, (x.1.getD (Ty.dflt (.cons (.int .i64) (.cons (.lst t_easementref08_Pair) (.cons (.lst (.int .i32)) (.cons (.lst (.int .i32)) (.cons (.lst (.int .i32)) (.cons (.lst (.int .i32)) .nil)))))))).2.2.1, (x.1.getD (Ty.dflt (.cons (.int .i64) (.cons (.lst t_easementref08_Pair) (.cons (.lst (.int .i32)) (.cons (.lst (.int .i32)) (.cons (.lst (.int .i32)) (.cons (.lst (.int .i32)) .nil)))))))).2.2.2.2.2.1, (x.1.getD (Ty.dflt (.cons (.int .i64) (.cons (.lst t_easementref08_Pair) (.cons (.lst (.int .i32)) (.cons (.lst (.int .i32)) (.cons (.lst (.int .i32)) (.cons (.lst (.int .i32)) .nil)))))))).2.2.2.2.1, ()), v2, (v2.length : Int), (0 : Int), ())) fun y1 => out1 y1
      (fun z2 =>
        some (some z2.1, ())))
noncomputable def graph_Graph_Turn_c : Ctr := ⟨(.cons (.ptr (.cons (.int .i64) (.cons (.lst t_easementref08_Pair) (.cons (.lst (.int .i32)) (.cons (.lst (.int .i32)) (.cons (.lst (.int .i32)) (.cons (.lst (.int .i32)) .nil))))))) .nil), (.cons (.ptr (.cons (.int .i64) (.cons (.lst t_easementref08_Pair) (.cons (.lst (.int .i32)) (.cons (.lst (.int .i32)) (.cons (.lst (.int .i32)) (.cons (.lst (.int .i32)) .nil))))))) .nil), graph_Graph_Turn, none⟩
theorem graph_Graph_Turn_ok : CtrOK Tryz.prog 65 graph_Graph_Turn_c := fun_E k0 Tryz.func65 k98s (by kernel_rfl) (fun x => by kernel_rfl)
/-! ### (*easement/flow.Flow).Back: function 27 -/
noncomputable def k99 : FE Tryz.prog := ⟨[(60, flow_Flow_graph_c), (65, graph_Graph_Turn_c), (62, graph_Graph_Next_c)], [], [], [], ⟨flow_Flow_graph_ok, graph_Graph_Turn_ok, graph_Graph_Next_ok, trivial⟩, trivial, trivial⟩
noncomputable def flow_Flow_Back (x : ((Option V_flow_Flow) × Int × Unit)) : Option ((List Int) × Unit) :=
  Option.bind (flow_Flow_graph (x.1, ())) fun y1 =>
  Option.bind (graph_Graph_Turn y1) fun y2 =>
  Option.bind (graph_Graph_Next (y2.1, x.2)) fun y3 =>
  some y3
noncomputable def flow_Flow_Back_c : Ctr := ⟨(.cons (.ptr (.cons (.ptr (.cons (.lst (.int .i64)) .nil)) (.cons (.ptr (.cons (.int .i64) (.cons (.lst t_easementref08_Pair) (.cons (.lst (.int .i32)) (.cons (.lst (.int .i32)) (.cons (.lst (.int .i32)) (.cons (.lst (.int .i32)) .nil))))))) .nil))) (.cons (.int .i64) .nil)), (.cons (.lst (.int .i64)) .nil), flow_Flow_Back, none⟩
theorem flow_Flow_Back_ok : CtrOK Tryz.prog 27 flow_Flow_Back_c := fun_E (ls := []) k99 Tryz.func27 trivial (by kernel_rfl) (fun x => by kernel_rfl)
/-! ### (*easement/graph.Graph).Reach: function 66 -/
noncomputable def k100 : FE Tryz.prog := ⟨[(61, graph_Graph_Nodes_c), (62, graph_Graph_Next_c)], [], [], [], ⟨graph_Graph_Nodes_ok, graph_Graph_Next_ok, trivial⟩, trivial, trivial⟩
noncomputable def graph_Graph_Reach_j115_v (x : ((List Int) × (List Int) × Int × Bool × Unit)) : Option (((List Int) × (List Int) × Unit) ⊕ Empty) :=
  cond (x.2.2.2.1)
    (ck (inB x.2.2.1 (x.1.length)) <|
    ck (roomB (x.2.1 ++ [x.2.2.1]).length 10) <|
    some (.inl (x.2.1 ++ [x.2.2.1], x.1.set x.2.2.1.toNat (1 : Int), ())))
    (some (.inl (x.2.1, x.1, ())))
noncomputable def k100l1 : LCtr := ⟨[5, 6, 9, 57], (.cons (.own (.int .i64)) (.cons (.own (.int .i64)) (.cons (.val (.int .i64)) (.cons (.val .bool) .nil)))), [], [5, 47, 48, 49], [⟨.normal, [6, 5], (.cons (.own (.int .i64)) (.cons (.own (.int .i64)) .nil)), [none, some 0]⟩], fun _ => [], graph_Graph_Reach_j115_v⟩
noncomputable def graph_Graph_Reach_l20_step (g : ((List Int) × (List Int) × (List Int) × Int × Int × Unit) → Option (((List Int) × (List Int) × Unit) ⊕ Empty)) (x : ((List Int) × (List Int) × (List Int) × Int × Int × Unit)) : Option (((List Int) × (List Int) × Unit) ⊕ Empty) :=
  cond (decide (x.2.2.2.2.1 < x.2.2.2.1))
    (ck (inB x.2.2.2.2.1 (x.2.2.1.length)) <|
    let v1 := rdL (.int .i64) x.2.2.1 x.2.2.2.2.1
    ck (inB v1 (x.1.length)) <|
    Option.bind (graph_Graph_Reach_j115_v (x.1, x.2.1, v1, (x.1.getD v1.toNat (Ty.dflt (.int .i64))) == (0 : Int), ())) fun y3 => out1 y3
      (fun z4 =>
        g (z4.2.1, z4.1, x.2.2.1, x.2.2.2.1, IntKind.i64.wrap (x.2.2.2.2.1 + (1 : Int)), ())))
    (some (.inl (x.2.1, x.1, ())))
noncomputable def k100l2 : LCtr := ⟨[5, 6, 47, 48, 49], (.cons (.own (.int .i64)) (.cons (.own (.int .i64)) (.cons (.val (.lst (.int .i64))) (.cons (.val (.int .i64)) (.cons (.val (.int .i64)) .nil))))), [some 0, none], [0, 5], [⟨(.exit 2), [6, 5], (.cons (.own (.int .i64)) (.cons (.own (.int .i64)) .nil)), [none, some 0]⟩], fun _ => [], lim graph_Graph_Reach_l20_step⟩
noncomputable def graph_Graph_Reach_l12_step (g : ((Option V_graph_Graph) × (List Int) × (List Int) × Unit) → Option (((List Int) × (List Int) × Unit) ⊕ Empty)) (x : ((Option V_graph_Graph) × (List Int) × (List Int) × Unit)) : Option (((List Int) × (List Int) × Unit) ⊕ Empty) :=
  cond (decide ((x.2.2.1.length : Int) > (0 : Int)))
    (let v1 := IntKind.i64.wrap ((x.2.2.1.length : Int) - (1 : Int))
    ck (inB v1 (x.2.2.1.length)) <|
    let v2 := IntKind.i64.wrap ((x.2.2.1.length : Int) - (1 : Int))
    ck (decide (0 ≤ v2) && decide (v2 ≤ x.2.2.1.length)) <|
    Option.bind (graph_Graph_Next (x.1, x.2.2.1.getD v1.toNat (Ty.dflt (.int .i64)), ())) fun y2 =>
    Option.bind (lim graph_Graph_Reach_l20_step (x.2.1, x.2.2.1.take v2.toNat, y2.1, (y2.1.length : Int), (0 : Int), ())) fun y5 => out1 y5
      (fun z6 =>
        g (x.1, z6.2.1, z6.1, ())))
    (some (.inl x.2))
noncomputable def k100l3 : LCtr := ⟨[0, 5, 6], (.cons (.val (.ptr (.cons (.int .i64) (.cons (.lst t_easementref08_Pair) (.cons (.lst (.int .i32)) (.cons (.lst (.int .i32)) (.cons (.lst (.int .i32)) (.cons (.lst (.int .i32)) .nil)))))))) (.cons (.own (.int .i64)) (.cons (.own (.int .i64)) .nil))), [some 0, none], [5], [⟨(.exit 0), [5, 6], (.cons (.own (.int .i64)) (.cons (.own (.int .i64)) .nil)), [some 0, none]⟩], fun _ => [], lim graph_Graph_Reach_l12_step⟩
noncomputable def graph_Graph_Reach_j149_v (x : ((List Int) × Int × Bool × Unit)) : Option (V_point_Points ⊕ Empty) :=
  cond (x.2.2.1)
    (ck (roomB (x.1 ++ [x.2.1]).length 10) <|
    some (.inl (x.1 ++ [x.2.1], ())))
    (some (.inl (x.1, ())))
noncomputable def k100l4 : LCtr := ⟨[10, 11, 74], q118, [], [66, 67, 68], [⟨.normal, [10], (.cons (.own (.int .i64)) .nil), [none]⟩], fun _ => [], graph_Graph_Reach_j149_v⟩
noncomputable def graph_Graph_Reach_l36_step (g : ((List Int) × (List Int) × Int × Int × Unit) → Option (((List Int) × (List Int) × Unit) ⊕ Empty)) (x : ((List Int) × (List Int) × Int × Int × Unit)) : Option (((List Int) × (List Int) × Unit) ⊕ Empty) :=
  cond (decide (x.2.2.2.1 < x.2.2.1))
    (ck (inB x.2.2.2.1 (x.2.1.length)) <|
    Option.bind (graph_Graph_Reach_j149_v (x.1, x.2.2.2.1, decide ((x.2.1.getD x.2.2.2.1.toNat (Ty.dflt (.int .i64))) > (0 : Int)), ())) fun y9 => out1 y9
      (fun z10 =>
        g (z10.1, x.2.1, x.2.2.1, IntKind.i64.wrap (x.2.2.2.1 + (1 : Int)), ())))
    (some (.inl (x.1, x.2.1, ())))
noncomputable def k100l5 : LCtr := ⟨[10, 66, 67, 68], (.cons (.own (.int .i64)) (.cons (.own (.int .i64)) (.cons (.val (.int .i64)) (.cons (.val (.int .i64)) .nil)))), [none, some 1], [], [⟨(.exit 4), [10, 66], (.cons (.own (.int .i64)) (.cons (.own (.int .i64)) .nil)), [none, some 1]⟩], fun _ => [], lim graph_Graph_Reach_l36_step⟩
theorem k100s : LsOK Tryz.prog Tryz.f66.ntmps (codeOf Tryz.f66) [(36, k100l5), (2752661, k100l4), (12, k100l3), (20, k100l2), (1704051, k100l1)] := loop_E 36 k100l5 k100 (join_E 2752661 k100l4 k100 (loop_E 12 k100l3 k100 (loop_E 20 k100l2 k100 (join_E 1704051 k100l1 k100 trivial (by kernel_rfl) (fun x => by kernel_rfl)) (by kernel_rfl) rfl (fun g x => by kernel_rfl)) (by kernel_rfl) rfl (fun g x => by kernel_rfl)) (by kernel_rfl) (fun x => by kernel_rfl)) (by kernel_rfl) rfl (fun g x => by kernel_rfl)
noncomputable def graph_Graph_Reach (x : ((Option V_graph_Graph) × Int × Unit)) : Option ((List Int) × Unit) :=
  cond (!(decide (x.2.1 < (0 : Int))))
    (Option.bind (graph_Graph_Nodes (x.1, ())) fun y1 =>
    cond (decide (x.2.1 ≥ y1.1))
      (some (([] : List Int), ()))
      (ck (x.1.isSome) <|
      let v1 := (x.1.getD (Ty.dflt (.cons (.int .i64) (.cons (.lst t_easementref08_Pair) (.cons (.lst (.int .i32)) (.cons (.lst (.int .i32)) (.cons (.lst (.int .i32)) (.cons (.lst (.int .i32)) .nil)))))))).1
      ck (decide (0 ≤ v1) && decide (v1 ≤ v1) && decide (v1 * ((10 : Nat) : Int) ≤ 35184372088832)) <|
      let v2 := List.replicate v1.toNat ((0 : Int) : Int)
      ck (inB x.2.1 (v2.length)) <|
      Option.bind (lim graph_Graph_Reach_l12_step (x.1, v2.set x.2.1.toNat (1 : Int), [x.2.1], ())) fun y7 => out1 y7
        (fun z8 =>
          Option.bind (lim graph_Graph_Reach_l36_step (([] : List Int), z8.1, (z8.1.length : Int), (0 : Int), ())) fun y11 => out1 y11
            (fun z12 =>
              some (z12.1, ())))))
    (some (([] : List Int), ()))
noncomputable def graph_Graph_Reach_c : Ctr := ⟨(.cons (.ptr (.cons (.int .i64) (.cons (.lst t_easementref08_Pair) (.cons (.lst (.int .i32)) (.cons (.lst (.int .i32)) (.cons (.lst (.int .i32)) (.cons (.lst (.int .i32)) .nil))))))) (.cons (.int .i64) .nil)), (.cons (.lst (.int .i64)) .nil), graph_Graph_Reach, none⟩
theorem graph_Graph_Reach_ok : CtrOK Tryz.prog 66 graph_Graph_Reach_c := fun_E k100 Tryz.func66 k100s (by kernel_rfl) (fun x => by kernel_rfl)
/-! ### (*easement/flow.Flow).Reached: function 28 -/
noncomputable def k101 : FE Tryz.prog := ⟨[(60, flow_Flow_graph_c), (66, graph_Graph_Reach_c)], [], [], [], ⟨flow_Flow_graph_ok, graph_Graph_Reach_ok, trivial⟩, trivial, trivial⟩
noncomputable def flow_Flow_Reached (x : ((Option V_flow_Flow) × Unit)) : Option ((List Int) × Unit) :=
  Option.bind (flow_Flow_graph x) fun y1 =>
  Option.bind (graph_Graph_Reach (y1.1, (0 : Int), ())) fun y2 =>
  some y2
noncomputable def flow_Flow_Reached_c : Ctr := ⟨(.cons (.ptr (.cons (.ptr (.cons (.lst (.int .i64)) .nil)) (.cons (.ptr (.cons (.int .i64) (.cons (.lst t_easementref08_Pair) (.cons (.lst (.int .i32)) (.cons (.lst (.int .i32)) (.cons (.lst (.int .i32)) (.cons (.lst (.int .i32)) .nil))))))) .nil))) .nil), (.cons (.lst (.int .i64)) .nil), flow_Flow_Reached, none⟩
theorem flow_Flow_Reached_ok : CtrOK Tryz.prog 28 flow_Flow_Reached_c := fun_E (ls := []) k101 Tryz.func28 trivial (by kernel_rfl) (fun x => by kernel_rfl)
/-! ### (*easement/flow.Flow).Stops: function 29 -/
noncomputable def k102 : FE Tryz.prog := ⟨[(60, flow_Flow_graph_c), (61, graph_Graph_Nodes_c), (26, flow_Flow_Next_c)], [], [], [], ⟨flow_Flow_graph_ok, graph_Graph_Nodes_ok, flow_Flow_Next_ok, trivial⟩, trivial, trivial⟩
noncomputable def flow_Flow_Stops_j31_v (x : ((List Int) × Int × Bool × Unit)) : Option (V_point_Points ⊕ Empty) :=
  cond (x.2.2.1)
    (ck (roomB (x.1 ++ [x.2.1]).length 10) <|
    some (.inl (x.1 ++ [x.2.1], ())))
    (some (.inl (x.1, ())))
noncomputable def k102l1 : LCtr := ⟨[3, 4, 15], q118, [], [0, 7, 8], [⟨.normal, [3], (.cons (.own (.int .i64)) .nil), [none]⟩], fun _ => [], flow_Flow_Stops_j31_v⟩
noncomputable def flow_Flow_Stops_l6_step (g : ((Option V_flow_Flow) × (List Int) × Int × Int × Unit) → Option (V_point_Points ⊕ Empty)) (x : ((Option V_flow_Flow) × (List Int) × Int × Int × Unit)) : Option (V_point_Points ⊕ Empty) :=
  cond (decide (x.2.2.2.1 < x.2.2.1))
    (Option.bind (flow_Flow_Next (x.1, x.2.2.2)) fun y3 =>
    Option.bind (flow_Flow_Stops_j31_v (x.2.1, x.2.2.2.1, (y3.1.length : Int) == (0 : Int), ())) fun y4 => out1 y4
      (fun z5 =>
        g (x.1, z5.1, x.2.2.1, IntKind.i64.wrap (x.2.2.2.1 + (1 : Int)), ())))
    (some (.inl (x.2.1, ())))
noncomputable def k102l2 : LCtr := ⟨[0, 3, 7, 8], (.cons (.val (.ptr (.cons (.ptr (.cons (.lst (.int .i64)) .nil)) (.cons (.ptr (.cons (.int .i64) (.cons (.lst t_easementref08_Pair) (.cons (.lst (.int .i32)) (.cons (.lst (.int .i32)) (.cons (.lst (.int .i32)) (.cons (.lst (.int .i32)) .nil))))))) .nil)))) (.cons (.own (.int .i64)) (.cons (.val (.int .i64)) (.cons (.val (.int .i64)) .nil)))), [none], [], [⟨(.exit 0), [3], (.cons (.own (.int .i64)) .nil), [none]⟩], fun _ => [], lim flow_Flow_Stops_l6_step⟩
theorem k102s : LsOK Tryz.prog Tryz.f29.ntmps (codeOf Tryz.f29) [(6, k102l2), (786463, k102l1)] := loop_E 6 k102l2 k102 (join_E 786463 k102l1 k102 trivial (by kernel_rfl) (fun x => by kernel_rfl)) (by kernel_rfl) rfl (fun g x => by kernel_rfl)
noncomputable def flow_Flow_Stops (x : ((Option V_flow_Flow) × Unit)) : Option ((List Int) × Unit) :=
  Option.bind (flow_Flow_graph x) fun y1 =>
  Option.bind (graph_Graph_Nodes y1) fun y2 =>
  Option.bind (lim flow_Flow_Stops_l6_step (x.1, ([] : List Int), y2.1, (0 : Int), ())) fun y6 => out1 y6
    (fun z7 =>
      some z7)
noncomputable def flow_Flow_Stops_c : Ctr := ⟨(.cons (.ptr (.cons (.ptr (.cons (.lst (.int .i64)) .nil)) (.cons (.ptr (.cons (.int .i64) (.cons (.lst t_easementref08_Pair) (.cons (.lst (.int .i32)) (.cons (.lst (.int .i32)) (.cons (.lst (.int .i32)) (.cons (.lst (.int .i32)) .nil))))))) .nil))) .nil), (.cons (.lst (.int .i64)) .nil), flow_Flow_Stops, none⟩
theorem flow_Flow_Stops_ok : CtrOK Tryz.prog 29 flow_Flow_Stops_c := fun_E k102 Tryz.func29 k102s (by kernel_rfl) (fun x => by kernel_rfl)
/-! ### easement/easementref10.Turn: function 31 -/
noncomputable def ref10_Turn_l6_step (g : T79 → Option (((List V_easementref08_Pair) × Unit) ⊕ Empty)) (x : T79) : Option (((List V_easementref08_Pair) × Unit) ⊕ Empty) :=
  cond (decide (x.2.2.1 < (x.1.length : Int)))
    (ck (inB x.2.2.1 (x.1.length)) <|
    ck (inB x.2.2.1 (x.1.length)) <|
    let v1 := x.2.1 ++ [((rdL t_easementref08_Pair x.1 x.2.2.1).2.1, (rdL t_easementref08_Pair x.1 x.2.2.1).1, ())]
    ck (roomB v1.length 19) <|
    g (x.1, v1, IntKind.i64.wrap (x.2.2.1 + (1 : Int)), ()))
    (some (.inl (x.2.1, ())))
noncomputable def k103l1 : LCtr := ⟨[0, 3, 4], (.cons (.val (.lst t_easementref08_Pair)) (.cons (.own t_easementref08_Pair) (.cons (.val (.int .i64)) .nil))), [none], [], [⟨(.exit 0), [3], (.cons (.own t_easementref08_Pair) .nil), [none]⟩], fun _ => [], lim ref10_Turn_l6_step⟩
theorem k103s : LsOK Tryz.prog Tryz.f31.ntmps (codeOf Tryz.f31) [(6, k103l1)] := loop_E 6 k103l1 k0 trivial (by kernel_rfl) rfl (fun g x => by kernel_rfl)
noncomputable def ref10_Turn (x : ((List V_easementref08_Pair) × Unit)) : Option ((List V_easementref08_Pair) × Unit) :=
  Option.bind (lim ref10_Turn_l6_step (x.1, ([] : List V_easementref08_Pair), (0 : Int), ())) fun y1 => out1 y1
    (fun z2 =>
      some z2)
noncomputable def ref10_Turn_c : Ctr := ⟨(.cons (.lst t_easementref08_Pair) .nil), (.cons (.lst t_easementref08_Pair) .nil), ref10_Turn, none⟩
theorem ref10_Turn_ok : CtrOK Tryz.prog 31 ref10_Turn_c := fun_E k0 Tryz.func31 k103s (by kernel_rfl) (fun x => by kernel_rfl)
/-! ### easement/easementref10.Nodes: function 32 -/
noncomputable def ref10_Nodes_j33_v (x : ((List Int) × Int × Bool × Unit)) : Option (V_point_Points ⊕ Empty) :=
  cond (x.2.2.1)
    (ck (roomB (x.1 ++ [x.2.1]).length 10) <|
    some (.inl (x.1 ++ [x.2.1], ())))
    (some (.inl (x.1, ())))
noncomputable def k104l1 : LCtr := ⟨[3, 4, 16], q118, [], [0, 4], [⟨.normal, [3], (.cons (.own (.int .i64)) .nil), [none]⟩], fun _ => [], ref10_Nodes_j33_v⟩
noncomputable def ref10_Nodes_l6_step (g : ((List Int) × (List Int) × Int × Unit) → Option (V_point_Points ⊕ Empty)) (x : ((List Int) × (List Int) × Int × Unit)) : Option (V_point_Points ⊕ Empty) :=
  cond (decide (x.2.2.1 < (x.1.length : Int)))
    (ck (inB x.2.2.1 (x.1.length)) <|
    Option.bind (ref10_Nodes_j33_v (x.2.1, x.2.2.1, (rdL (.int .i64) x.1 x.2.2.1) == (1 : Int), ())) fun y1 => out1 y1
      (fun z2 =>
        g (x.1, z2.1, IntKind.i64.wrap (x.2.2.1 + (1 : Int)), ())))
    (some (.inl (x.2.1, ())))
noncomputable def k104l2 : LCtr := ⟨[0, 3, 4], (.cons (.val (.lst (.int .i64))) (.cons (.own (.int .i64)) (.cons (.val (.int .i64)) .nil))), [none], [], [⟨(.exit 0), [3], (.cons (.own (.int .i64)) .nil), [none]⟩], fun _ => [], lim ref10_Nodes_l6_step⟩
theorem k104s : LsOK Tryz.prog Tryz.f32.ntmps (codeOf Tryz.f32) [(6, k104l2), (786465, k104l1)] := loop_E 6 k104l2 k0 (join_E 786465 k104l1 k0 trivial (by kernel_rfl) (fun x => by kernel_rfl)) (by kernel_rfl) rfl (fun g x => by kernel_rfl)
noncomputable def ref10_Nodes (x : ((List Int) × Unit)) : Option ((List Int) × Unit) :=
  Option.bind (lim ref10_Nodes_l6_step (x.1, ([] : List Int), (0 : Int), ())) fun y3 => out1 y3
    (fun z4 =>
      some z4)
noncomputable def ref10_Nodes_c : Ctr := ⟨(.cons (.lst (.int .i64)) .nil), (.cons (.lst (.int .i64)) .nil), ref10_Nodes, none⟩
theorem ref10_Nodes_ok : CtrOK Tryz.prog 32 ref10_Nodes_c := fun_E k0 Tryz.func32 k104s (by kernel_rfl) (fun x => by kernel_rfl)
/-! ### easement/easementref10.Reach: function 33 -/
noncomputable def ref10_Reach_j83_v (x : ((List V_easementref08_Pair) × (List Int) × Bool × Int × Bool × Unit)) : Option ((Bool × (List Int) × Unit) ⊕ Empty) :=
  cond (x.2.2.2.2.1)
    (ck (inB x.2.2.2.1 (x.1.length)) <|
    let v1 := (rdL t_easementref08_Pair x.1 x.2.2.2.1).2.1
    ck (inB v1 (x.2.1.length)) <|
    some (.inl (true, x.2.1.set v1.toNat (1 : Int), ())))
    (some (.inl (x.2.2.1, x.2.1, ())))
noncomputable def k105l1 : LCtr := ⟨[1, 7, 8, 9, 41], (.cons (.val (.lst t_easementref08_Pair)) (.cons (.own (.int .i64)) (.cons (.val .bool) (.cons (.val (.int .i64)) (.cons (.val .bool) .nil))))), [], [1, 7, 9], [⟨.normal, [8, 7], (.cons (.val .bool) (.cons (.own (.int .i64)) .nil)), [some 0]⟩], fun _ => [], ref10_Reach_j83_v⟩
noncomputable def ref10_Reach_l14_step (g : T81 → Option ((Bool × (List Int) × Unit) ⊕ Empty)) (x : T81) : Option ((Bool × (List Int) × Unit) ⊕ Empty) :=
  cond (decide (x.2.2.2.1 < (x.1.length : Int)))
    (ck (inB x.2.2.2.1 (x.1.length)) <|
    let v1 := (rdL t_easementref08_Pair x.1 x.2.2.2.1).1
    ck (inB v1 (x.2.1.length)) <|
    let v2 := (x.2.1.getD v1.toNat (Ty.dflt (.int .i64))) == (1 : Int)
    ck ((inB x.2.2.2.1 (x.1.length)) || !v2) <|
    let v3 := (rdL t_easementref08_Pair x.1 x.2.2.2.1).2.1
    ck ((inB v3 (x.2.1.length)) || !v2) <|
    Option.bind (ref10_Reach_j83_v (x.1, x.2.1, x.2.2.1, x.2.2.2.1, cond v2 ((x.2.1.getD v3.toNat (Ty.dflt (.int .i64))) == (0 : Int)) false, ())) fun y1 => out1 y1
      (fun z2 =>
        g (x.1, z2.2.1, z2.1, IntKind.i64.wrap (x.2.2.2.1 + (1 : Int)), ())))
    (some (.inl (x.2.2.1, x.2.1, ())))
noncomputable def k105l2 : LCtr := ⟨[1, 7, 8, 9], (.cons (.val (.lst t_easementref08_Pair)) (.cons (.own (.int .i64)) (.cons (.val .bool) (.cons (.val (.int .i64)) .nil)))), [some 0], [1, 7], [⟨(.exit 2), [8, 7], (.cons (.val .bool) (.cons (.own (.int .i64)) .nil)), [some 0]⟩], fun _ => [], lim ref10_Reach_l14_step⟩
noncomputable def ref10_Reach_l8_step (g : ((List V_easementref08_Pair) × (List Int) × Bool × Unit) → Option (V_point_Points ⊕ Empty)) (x : ((List V_easementref08_Pair) × (List Int) × Bool × Unit)) : Option (V_point_Points ⊕ Empty) :=
  cond (x.2.2.1)
    (Option.bind (lim ref10_Reach_l14_step (x.1, x.2.1, false, (0 : Int), ())) fun y3 => out1 y3
      (fun z4 =>
        g (x.1, z4.2.1, z4.1, ())))
    (some (.inl (x.2.1, ())))
noncomputable def k105l3 : LCtr := ⟨[1, 7, 8], (.cons (.val (.lst t_easementref08_Pair)) (.cons (.own (.int .i64)) (.cons (.val .bool) .nil))), [some 0], [7], [⟨(.exit 0), [7], (.cons (.own (.int .i64)) .nil), [some 0]⟩], fun _ => [], lim ref10_Reach_l8_step⟩
theorem k105s : LsOK Tryz.prog Tryz.f33.ntmps (codeOf Tryz.f33) [(8, k105l3), (14, k105l2), (1310803, k105l1)] := loop_E 8 k105l3 k0 (loop_E 14 k105l2 k0 (join_E 1310803 k105l1 k0 trivial (by kernel_rfl) (fun x => by kernel_rfl)) (by kernel_rfl) rfl (fun g x => by kernel_rfl)) (by kernel_rfl) rfl (fun g x => by kernel_rfl)
noncomputable def ref10_Reach (x : (Int × (List V_easementref08_Pair) × Int × Unit)) : Option ((List Int) × Unit) :=
  ck (decide (0 ≤ x.1) && decide (x.1 ≤ x.1) && decide (x.1 * ((10 : Nat) : Int) ≤ 35184372088832)) <|
  let v1 := List.replicate x.1.toNat ((0 : Int) : Int)
  ck (inB x.2.2.1 (v1.length)) <|
  Option.bind (lim ref10_Reach_l8_step (x.2.1, v1.set x.2.2.1.toNat (1 : Int), true, ())) fun y5 => out1 y5
    (fun z6 =>
      some z6)
noncomputable def ref10_Reach_c : Ctr := ⟨(.cons (.int .i64) (.cons (.lst t_easementref08_Pair) (.cons (.int .i64) .nil))), (.cons (.lst (.int .i64)) .nil), ref10_Reach, none⟩
theorem ref10_Reach_ok : CtrOK Tryz.prog 33 ref10_Reach_c := fun_E k0 Tryz.func33 k105s (by kernel_rfl) (fun x => by kernel_rfl)
end Go.XD


