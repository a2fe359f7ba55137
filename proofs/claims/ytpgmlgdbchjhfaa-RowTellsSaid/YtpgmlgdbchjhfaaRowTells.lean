/- For every input the law RowTells returns true, and its arguments read as they did: no condition. -/
import Derived.Shelf.Sort.Plain
import Derived.Shelf.Slices.In.SortNone
import Derived.Shelf.Slices.CompactI
import Derived.Test.YtpgmlgdbchjhfaaProg
import Derived.KernelRfl
import Derived.Test.YtpgmlgdbchjhfaaRows
import Derived.JoinedOf
import Derived.Test.YtpgmlgdbchjhfaaBd
set_option linter.unusedVariables false
set_option linter.unusedSimpArgs false
set_option linter.unusedSectionVars false
set_option linter.unnecessarySimpa false
set_option linter.deprecated false
set_option maxRecDepth 100000
/- slices.Sort of whole numbers, by the library's own contract. -/
namespace Go.XD
open Go.Sort Go.Proofs

section
variable {P : Program} {F : Fm} {B : Nat → Prop} {S : St} {γ : Gam} {W W' : World}

/-- New blocks behind the heap. -/
theorem Hp.grow (hp : Hp F B S γ W) (os : Array Obj) (h1 : W'.heap = W.heap ++ os) (ho : W'.os = W.os) (ht : W'.tape = W.tape) (hout : W'.output = W.output) : Stp F B S γ W S γ W' ∧ Hp F B S γ W' := by
  have hold : ∀ b, b < W.heap.size → W'.heap[b]? = W.heap[b]? := fun b hb => by rw [h1, Array.getElem?_append_left hb]
  have hst : Stp F B S γ W S γ W' := ⟨fun id _ ob h => ⟨ob, h, like_refl _, rfl⟩, ho, ht, hout, by rw [h1]; simp, fun b hb _ => hold b hb, fun b h => .inl h⟩
  exact ⟨hst, hst.hp hp (fun _ h => h) (fun id ob ho => hst.ob hp ho rfl (fun g c hg => hold g (hp.blt ho hg))) hp.inj hp.obsB⟩

theorem Hp.ext' {B : Nat → Prop} {S S' : St} {γ : Gam} {W : World} (hp : Hp F B S γ W) (h : ∀ id, S'.get id = S.get id) : Hp F B S' γ W := by
  have e1 : S'.get = S.get := funext h
  have e2 : tracked S' γ = tracked S γ := by funext b; unfold tracked; rw [e1]
  have e3 : Frz F S' γ W = Frz F S γ W := by funext b; unfold Frz; rw [e2]
  exact ⟨by rw [e1, e3]; exact hp.obs, by rw [e1]; exact hp.inj, by rw [e2]; exact hp.trk, hp.kept, by rw [e1]; exact hp.obsB⟩
/-- The sorted list. -/
def srt (l : List Int) : List Int := l.mergeSort fun x y => decide (x ≤ y)
@[simp] theorem srt_len (l : List Int) : (srt l).length = l.length := by simp [srt]
/-- slices.Sort's contract. -/
def slices_Sort (x : List Int × Unit) : Option ((List Int × Unit) ⊕ Empty) := some (.inl (srt x.1, ()))
def sortL : LCtr := ⟨[0], .cons (.own (.int .i64)) .nil, [], [], [⟨.ret, [0], .cons (.own (.int .i64)) .nil, [some 0]⟩], [], slices_Sort⟩
def sortPI : PI := ⟨1, .skip, [], sortL⟩

theorem sort_write (hp : Hp F B S γ W) {id g c : Nat} {xs : List Int} {vs : Array Value} {t : TypeId} (hg : S.get id = some (.buf (.int .i64) xs)) (e1 : γ id = some (g, c)) (e3 : W.heap[g]? = some (.cells vs t (0, 0))) (e4 : xs.length ≤ c) (e5 : c * (Ty.int .i64).cells ≤ vs.size) (e6 : xs.length ≤ 140737488355328) (e7 : RepL W.cell? (Frz F S γ W) (.int .i64) xs (fun j => vs[j]?))
    (n m : Nat) (os : Array Obj) : Stp F B S γ W ⟨n, (id, some (.buf (.int .i64) (srt xs))) :: S.m⟩ γ (Sort.grow (putRow (Value.int .i64) (Sort.ahead W m) g 0 (srt xs).toArray) os) ∧
      Hp F B ⟨n, (id, some (.buf (.int .i64) (srt xs))) :: S.m⟩ γ (Sort.grow (putRow (Value.int .i64) (Sort.ahead W m) g 0 (srt xs).toArray) os) := by
  have hgl : g < W.heap.size := hp.blt hg e1
  have e5' : c ≤ vs.size := by simpa [Ty.cells] using e5
  have hfit : ∀ x ∈ srt xs, fits .i64 x := fun x hx => by
    have hx' : x ∈ xs := by simpa [srt] using hx
    obtain ⟨i, hi, rfl⟩ := List.getElem_of_mem hx'
    exact (e7 i xs[i] (List.getElem?_eq_getElem hi)).2
  have h0 := hp.write (W' := putRow (Value.int .i64) (Sort.ahead W m) g 0 (srt xs).toArray) n (ob' := .buf (.int .i64) (srt xs)) (vs' := putCells (Value.int .i64) 0 (srt xs).toArray vs) (t := t) hg e1 (by simp [like]) (by
      simp only [putRow, mapBlock, Sort.ahead]
      rw [Array.getElem?_modify, if_pos rfl, e3]
      rfl) (fun b hb => by
      simp only [putRow, mapBlock, Sort.ahead]
      rw [Array.getElem?_modify, if_neg (Ne.symm hb)]) (by simp [putRow, mapBlock, Sort.ahead]) rfl rfl rfl (by
      refine ⟨by simpa using e4, by simpa [putCells, Ty.cells] using e5', by simpa using e6, fun i x hx => ?_⟩
      have hi : i < xs.length := by
        have : i < (srt xs).length := by
          rcases Nat.lt_or_ge i (srt xs).length with h | h
          · exact h
          · rw [List.getElem?_eq_none h] at hx; cases hx
        simpa using this
      refine ⟨?_, hfit x (List.mem_of_getElem? hx)⟩
      have hx2 : (srt xs).toArray[i]! = x := by
        simp [getElem!_def, hx]
      simp only [putCells, Ty.cells, Nat.mul_one, Nat.add_zero]
      rw [Array.getElem?_mapIdx]
      have hiv : i < vs.size := by omega
      rw [Array.getElem?_eq_getElem hiv]
      simp only [Option.map_some, Nat.zero_le, true_and, List.size_toArray, srt_len, Nat.zero_add, hi, if_true, Nat.sub_zero, hx2])
  obtain ⟨k1, k2⟩ := h0
  obtain ⟨k3, k4⟩ := k2.grow (W' := Sort.grow (putRow (Value.int .i64) (Sort.ahead W m) g 0 (srt xs).toArray) os) os rfl rfl rfl rfl
  exact ⟨k1.trans k3, k4⟩


theorem sort_ok {ρ : Go.Shelf.Ren} (Ly : Lays.n189 P ρ) {fn : Func} (h1 : P.funcs[ρ.f 189]? = some fn) (h2 : (fn.name == "runtime.NumGoroutine") = false) (h3 : fn.body.isNone = false) : PIOK P (ρ.f 189) sortPI := by
  intro α F S γ W args vs K r hp hr hb hgate h
  refine ⟨⟨fn, h1, h2, h3⟩, ?_⟩
  rw [Bool.and_eq_true] at hgate
  have hl : args.length ≤ 1 := Nat.le_of_ble_eq_true hgate.1
  unfold inlP piece at h
  simp only [sortPI, sortL, List.map_cons, List.map_nil] at h
  match args, hl with
  | [], _ =>
    have hz : getE (zipE (List.range 64) []) 0 = .junk := rfl
    rw [hz] at h
    simp [gaths, gath] at h
  | [d], _ =>
    have hz : getE (zipE (List.range 64) [d]) 0 = d := by
      rw [show List.range 64 = 0 :: (List.range' 1 63) from rfl]
      simp only [zipE]
      rw [getE_cons, if_pos rfl]
    rw [hz] at h
    simp only [RepDs] at hr
    obtain ⟨v, q, rfl, hv, rfl⟩ := hr
    have hid : ∀ id, lt S.nx id → lt (S.nx + 1) id := fun id h => Nat.lt_succ_of_lt h
    have fin : ∀ {γ' : Gam} {W' : World} {S' : St}, S'.nx = S.nx + 1 → Stp F (lt S.nx) S γ W S' γ' W' → Hp F (lt S'.nx) S' γ' W' → K (.tup []) S' = some r →
        ∃ v d S' γ', (Ending.returned (.tuple #[]) : Ending) = .returned v ∧ S.nx ≤ S'.nx ∧ Stp F (lt S.nx) S γ W S' γ' W' ∧ Hp F (lt S'.nx) S' γ' W' ∧ RepD W'.cell? (Frz F S' γ' W') S'.get γ' d v ∧ d.bnd (lt S'.nx) ∧ K d S' = some r := fun e k1 k2 k3 =>
      ⟨_, .tup [], _, _, rfl, by omega, k1, k2, by simp only [RepD]; exact ⟨[], rfl, by simp only [RepDs]⟩, trivial, k3⟩
    cases d with
    | nils =>
      simp only [RepD] at hv
      subst hv
      simp only [orgss, orgs, somes, idsVs, idsV, handB, gaths, gath, List.append_nil, List.nil_append] at h
      have h' : K (.tup []) ⟨S.nx + 1, (S.nx, some (.buf (.int .i64) (srt []))) :: S.m⟩ = some r := by
        split at h
        · rename_i x e1 e2
          simp only [Option.some.injEq] at e2
          subst e2
          simp [kont, scat, rho, idAt, renM, renOb, finV, tupD, St.rm, rmv, ren, rens] at h
          exact h
        · cases h
      obtain ⟨k1, k2⟩ := hp.allocNone (fid := S.nx) (fun h => absurd h (Nat.lt_irrefl _)) (S.nx + 1) (.int .i64)
      refine Calls.mono (Any.slices_Sort_int_none Ly none 0 W) ?_
      rintro e W' ⟨rfl, rfl⟩
      have hsr : srt [] = [] := by simp [srt]
      rw [hsr] at h'
      refine fin rfl (k1.weak (fun id h => h)) (k2.mono (fun id hid => ?_)) h'
      show id < S.nx + 1
      rcases hid with h | h
      · exact Nat.lt_succ_of_lt h
      · omega
    | sf id =>
      have hv' := hv
      simp only [RepD] at hv'
      obtain ⟨_, hv'⟩ := hv'
      cases hg : S.get id with
      | none => simp [gaths, gath, hg] at h
      | some ob =>
        cases ob with
        | cells ds => simp [gaths, gath, hg] at h
        | buf e xs =>
          rw [hg] at hv'
          simp only [orgss, orgs, somes, idsVs, idsV, handB, gaths, gath, hg, List.append_nil, List.nil_append] at h
          by_cases he : e = .int .i64
          · subst he
            have hc : castT (.lst (.int .i64)) (.lst (.int .i64)) xs = some xs := by simp [castT]
            rw [hc] at h
            have h' : K (.tup []) ⟨S.nx + 1, (id, some (.buf (.int .i64) (srt xs))) :: (id, none) :: S.m⟩ = some r := by
              split at h
              · rename_i x e1 e2
                simp only [Option.some.injEq] at e2
                subst e2
                simp [kont, scat, rho, idAt, renM, renOb, finV, tupD, St.rm, rmv, ren, rens] at h
                exact h
              · cases h
            simp only at hv'
            rcases hv' with ⟨g, c, r1, rfl⟩ | ⟨r1, a0, rfl⟩
            · rcases hp.obs id _ hg with ⟨q1, rfl⟩ | ⟨g', c', cur, tt, q1, q2, q3, q4, q5, q6⟩
              · rw [r1] at q1; cases q1
              · rw [r1] at q1
                simp only [Option.some.injEq, Prod.mk.injEq] at q1
                obtain ⟨rfl, rfl⟩ := q1
                have hgl : g < W.heap.size := hp.blt hg r1
                have q4' : c ≤ cur.size := by simpa [Ty.cells] using q4
                refine Calls.mono (Any.slices_Sort_int Ly g 0 c xs W (fun j hj => ?_) hgl (by omega)) ?_
                · have hj' : j < xs.length := by simpa using hj
                  have := (q6 j xs[j] (List.getElem?_eq_getElem hj')).1
                  simp only [Ty.cells, Nat.mul_one, Nat.add_zero] at this
                  refine ⟨?_, ?_⟩
                  · simp only [World.cell?, q2]
                    rw [Nat.zero_add, this]
                    simp [getElem!_def, hj']
                  · simp [World.frozen?, q2]
                · rintro e W' ⟨rfl, n, os, rfl⟩
                  obtain ⟨k1, k2⟩ := sort_write hp hg r1 q2 q3 q4 q5 q6 (S.nx + 1) n os
                  have hext : ∀ k, St.get ⟨S.nx + 1, (id, some (.buf (.int .i64) (srt xs))) :: (id, none) :: S.m⟩ k = St.get ⟨S.nx + 1, (id, some (.buf (.int .i64) (srt xs))) :: S.m⟩ k := fun k => by
                    rw [get_cons, get_cons, getM_cons]
                    by_cases e : id = k
                    · rw [if_pos e, if_pos e]
                    · rw [if_neg e, if_neg e, if_neg e]
                  exact fin (S' := ⟨S.nx + 1, (id, some (.buf (.int .i64) (srt xs))) :: (id, none) :: S.m⟩) rfl (k1.ext (fun _ => rfl) hext) (((k2.mono hid).ext' hext)) h'
            · rcases hp.obs id _ hg with ⟨q1, rfl⟩ | ⟨g', c', cur, tt, q1, _⟩
              · refine Calls.mono (Any.slices_Sort_int_none Ly a0 0 W) ?_
                rintro e W' ⟨rfl, rfl⟩
                have hsr : srt [] = [] := by simp [srt]
                rw [hsr] at h'
                have hext : ∀ k, St.get ⟨S.nx + 1, (id, some (.buf (.int .i64) [])) :: (id, none) :: S.m⟩ k = S.get k := fun k => by
                  rw [get_cons, getM_cons]
                  by_cases e : id = k
                  · subst e
                    rw [if_pos rfl]
                    exact hg.symm
                  · rw [if_neg e, if_neg e]
                    rfl
                exact fin (S' := ⟨S.nx + 1, (id, some (.buf (.int .i64) [])) :: (id, none) :: S.m⟩) rfl ((Stp.refl F _ S γ _).ext (fun _ => rfl) hext) (((hp.mono hid).ext' hext)) h'
              · rw [r1] at q1; cases q1
          · simp [castT, he] at h
    | _ => simp [gaths, gath] at h

/-! ### slices.Compact -/
/-- The list without what is as the one ahead. -/
def cpt (l : List Int) : List Int := Lib.compact l
def slices_Compact (x : List Int × Unit) : Option ((List Int × Unit) ⊕ Empty) := some (.inl (cpt x.1, ()))
def compactL : LCtr := ⟨[0], .cons (.own (.int .i64)) .nil, [], [], [⟨.ret, [1], .cons (.own (.int .i64)) .nil, [none]⟩], [], slices_Compact⟩
def compactPI : PI := ⟨1, .skip, [.tmp 1], compactL⟩
theorem cpt_len (l : List Int) : (cpt l).length ≤ l.length := by
  unfold cpt Lib.compact Lib.compactUpTo
  rw [List.length_map]
  exact Nat.le_trans (List.length_filter_le _ _) (by simp)
theorem cpt_mem {l : List Int} {x : Int} (h : x ∈ cpt l) : x ∈ l := by
  unfold cpt Lib.compact Lib.compactUpTo at h
  obtain ⟨i, hi, rfl⟩ := List.mem_map.1 h
  have := List.mem_range.1 (List.mem_filter.1 hi).1
  simp [getElem!_def, this]
theorem compact_ok {ρ : Go.Shelf.Ren} (Ly : Lays2.n20 P ρ) {fn : Func} (h1 : P.funcs[ρ.f 20]? = some fn) (h2 : (fn.name == "runtime.NumGoroutine") = false) (h3 : fn.body.isNone = false) : PIOK P (ρ.f 20) compactPI := by
  intro α F S γ W args vs K r hp hr hb hgate h
  refine ⟨⟨fn, h1, h2, h3⟩, ?_⟩
  rw [Bool.and_eq_true] at hgate
  have hl : args.length ≤ 1 := Nat.le_of_ble_eq_true hgate.1
  unfold inlP piece at h
  simp only [compactPI, compactL, List.map_cons, List.map_nil] at h
  have hlt : ∀ id, ins (lt S.nx) S.nx id → lt (S.nx + 1) id := fun id hid => by
    show id < S.nx + 1
    rcases hid with h | h
    · exact Nat.lt_succ_of_lt h
    · omega
  match args, hl with
  | [], _ =>
    have hz : getE (zipE (List.range 64) []) 0 = .junk := rfl
    rw [hz] at h
    simp [gaths, gath] at h
  | [d], _ =>
    have hz : getE (zipE (List.range 64) [d]) 0 = d := by
      rw [show List.range 64 = 0 :: (List.range' 1 63) from rfl]
      simp only [zipE]
      rw [getE_cons, if_pos rfl]
    rw [hz] at h
    simp only [RepDs] at hr
    obtain ⟨v, q, rfl, hv, rfl⟩ := hr
    cases d with
    | nils =>
      simp only [RepD] at hv
      subst hv
      simp only [orgss, orgs, somes, idsVs, idsV, handB, gaths, gath, List.append_nil, List.nil_append] at h
      have h' : K (.sf S.nx) ⟨S.nx + 1, (S.nx, some (.buf (.int .i64) (cpt []))) :: S.m⟩ = some r := by
        split at h
        · rename_i x e1 e2
          simp only [Option.some.injEq] at e2
          subst e2
          simp [kont, scat, rho, idAt, renM, renOb, finV, tupD, St.rm, rmv, ren, rens, getE_cons, zipE] at h
          exact h
        · cases h
      have hsr : cpt [] = [] := rfl
      rw [hsr] at h'
      obtain ⟨k1, k2⟩ := hp.allocNone (fid := S.nx) (fun h => absurd h (Nat.lt_irrefl _)) (S.nx + 1) (.int .i64)
      refine Calls.mono (Any.slices_Compact_int_empty Ly none 0 W) ?_
      rintro e W' ⟨rfl, rfl⟩
      refine ⟨_, .sf S.nx, _, _, rfl, Nat.le_succ _, k1, k2.mono hlt, ?_, Nat.lt_succ_self _, h'⟩
      simp only [RepD]
      rw [get_cons, if_pos rfl]
      exact ⟨rfl, .inr ⟨updG_self _ _ _, none, rfl⟩⟩
    | sf id =>
      have hv' := hv
      simp only [RepD] at hv'
      obtain ⟨_, hv'⟩ := hv'
      cases hg : S.get id with
      | none => simp [gaths, gath, hg] at h
      | some ob =>
        cases ob with
        | cells ds => simp [gaths, gath, hg] at h
        | buf e xs =>
          rw [hg] at hv'
          simp only [orgss, orgs, somes, idsVs, idsV, handB, gaths, gath, hg, List.append_nil, List.nil_append] at h
          by_cases he : e = .int .i64
          · subst he
            have hc : castT (.lst (.int .i64)) (.lst (.int .i64)) xs = some xs := by simp [castT]
            rw [hc] at h
            have h' : K (.sf S.nx) ⟨S.nx + 1, (S.nx, some (.buf (.int .i64) (cpt xs))) :: (id, none) :: S.m⟩ = some r := by
              split at h
              · rename_i x e1 e2
                simp only [Option.some.injEq] at e2
                subst e2
                simp [kont, scat, rho, idAt, renM, renOb, finV, tupD, St.rm, rmv, ren, rens, getE_cons, zipE] at h
                exact h
              · cases h
            simp only at hv'
            rcases hv' with ⟨g, c, r1, rfl⟩ | ⟨r1, a0, rfl⟩
            · rcases hp.obs id _ hg with ⟨q1, rfl⟩ | ⟨g', c', cur, tt, q1, q2, q3, q4, q5, q6⟩
              · rw [r1] at q1; cases q1
              · rw [r1] at q1
                simp only [Option.some.injEq, Prod.mk.injEq] at q1
                obtain ⟨rfl, rfl⟩ := q1
                have hgl : g < W.heap.size := hp.blt hg r1
                have q4' : c ≤ cur.size := by simpa [Ty.cells] using q4
                have hcl := cpt_len xs
                refine Calls.mono (Any.slices_Compact_int Ly g 0 c xs W (fun j hj => ?_) (by omega) q3) ?_
                · have hj' : j < xs.length := by simpa using hj
                  have := (q6 j xs[j] (List.getElem?_eq_getElem hj')).1
                  simp only [Ty.cells, Nat.mul_one, Nat.add_zero] at this
                  refine ⟨?_, ?_⟩
                  · simp only [World.cell?, q2]
                    rw [Nat.zero_add, this]
                    simp [getElem!_def, hj']
                  · simp [World.frozen?, q2]
                · rintro e W' ⟨rfl, n, rfl⟩
                  obtain ⟨k1, k2⟩ := hp.move (fid := S.nx) (fun h => absurd h (Nat.lt_irrefl _)) (S.nx + 1) (e := .int .i64) (xs := cpt xs) (W' := putRow (Value.int .i64) (Sort.ahead W n) g 0 (Lib.compact xs ++ List.replicate (xs.length - (Lib.compact xs).length) 0).toArray) (vs' := putCells (Value.int .i64) 0 (Lib.compact xs ++ List.replicate (xs.length - (Lib.compact xs).length) 0).toArray cur) (t := tt) hg r1 (by
                    simp only [putRow, mapBlock, Sort.ahead]
                    rw [Array.getElem?_modify, if_pos rfl, q2]
                    rfl) (fun b hb => by
                    simp only [putRow, mapBlock, Sort.ahead]
                    rw [Array.getElem?_modify, if_neg (Ne.symm hb)]) (by simp [putRow, mapBlock, Sort.ahead]) rfl rfl rfl (by
                    refine ⟨by omega, by simpa [putCells, Ty.cells] using q4', by omega, fun i x hx => ?_⟩
                    have hi : i < (cpt xs).length := by
                      rcases Nat.lt_or_ge i (cpt xs).length with h | h
                      · exact h
                      · rw [List.getElem?_eq_none h] at hx; cases hx
                    have hxm : x ∈ xs := cpt_mem (List.mem_of_getElem? hx)
                    refine ⟨?_, by
                      obtain ⟨i, hi, rfl⟩ := List.getElem_of_mem hxm
                      exact (q6 i xs[i] (List.getElem?_eq_getElem hi)).2⟩
                    have hcl' : (Lib.compact xs).length ≤ xs.length := hcl
                    have hi' : i < (Lib.compact xs).length := hi
                    have hx2 : (Lib.compact xs ++ List.replicate (xs.length - (Lib.compact xs).length) 0).toArray[i]! = x := by
                      have : (Lib.compact xs)[i]? = some x := hx
                      simp [getElem!_def, List.getElem?_append_left hi', this]
                    simp only [putCells, Ty.cells, Nat.mul_one, Nat.add_zero]
                    rw [Array.getElem?_mapIdx]
                    have hiv : i < cur.size := by omega
                    rw [Array.getElem?_eq_getElem hiv]
                    have hsz2 : (Lib.compact xs ++ List.replicate (xs.length - (Lib.compact xs).length) 0).toArray.size = xs.length := by simp; omega
                    simp only [Option.map_some, Nat.zero_le, true_and, hsz2, Nat.zero_add, show i < xs.length from by omega, if_true, Nat.sub_zero, hx2])
                  refine ⟨_, .sf S.nx, _, _, rfl, Nat.le_succ _, k1, k2.mono hlt, ?_, Nat.lt_succ_self _, h'⟩
                  simp only [RepD]
                  rw [get_cons, if_pos rfl]
                  exact ⟨rfl, .inl ⟨g, c, updG_self _ _ _, rfl⟩⟩
            · rcases hp.obs id _ hg with ⟨q1, rfl⟩ | ⟨g', c', cur, tt, q1, _⟩
              · have hsr : cpt [] = [] := rfl
                rw [hsr] at h'
                obtain ⟨k1, k2⟩ := hp.allocNone (fid := S.nx) (fun h => absurd h (Nat.lt_irrefl _)) (S.nx + 1) (.int .i64)
                have hp2 := k2.sub ⟨S.nx + 1, (S.nx, some (.buf (.int .i64) [])) :: (id, none) :: S.m⟩ (fun k ob hk => by
                  rw [get_cons] at hk
                  rw [get_cons]
                  by_cases e : S.nx = k
                  · rw [if_pos e] at hk ⊢
                    exact hk
                  · rw [if_neg e, getM_cons] at hk
                    rw [if_neg e]
                    by_cases e2 : id = k
                    · rw [if_pos e2] at hk; cases hk
                    · rw [if_neg e2] at hk; exact hk)
                refine Calls.mono (Any.slices_Compact_int_empty Ly a0 0 W) ?_
                rintro e W' ⟨rfl, rfl⟩
                refine ⟨_, .sf S.nx, ⟨S.nx + 1, (S.nx, some (.buf (.int .i64) [])) :: (id, none) :: S.m⟩, _, rfl, Nat.le_succ _, k1.trans (hp2.1.weak fun id h => .inl h), hp2.2.mono hlt, ?_, Nat.lt_succ_self _, h'⟩
                simp only [RepD]
                rw [get_cons, if_pos rfl]
                exact ⟨rfl, .inr ⟨updG_self _ _ _, a0, rfl⟩⟩
              · rw [r1] at q1; cases q1
          · simp [castT, he] at h
    | _ => simp [gaths, gath] at h
end
end Go.XD


/- A function of the library is in the program. -/
namespace Go.XD
open Go.Proofs Go.Shelf

def ren189 : Go.Shelf.Ren := ⟨fun | 125 => 119 | 128 => 149 | 129 => 150 | 189 => 101 | 215 => 165 | 216 => 146 | 257 => 118 | 294 => 140 | 295 => 141 | 296 => 142 | 297 => 143 | 298 => 144 | 299 => 145 | 300 => 147 | 301 => 148 | 328 => 160 | 329 => 161 | 330 => 162 | 331 => 163 | 332 => 164 | 343 => 169 | n => n, fun | 0 => 0 | 3 => 3 | 4 => 4 | 5 => 5 | 9 => 9 | 28 => 35 | 46 => 183 | 51 => 215 | 53 => 217 | 131 => 60 | 182 => 208 | 183 => 209 | 218 => 228 | 222 => 232 | 228 => 240 | 229 => 241 | n => n, fun n => n⟩
theorem lays189 : Lays.n189 Try.prog ren189 where
  mixed := by kernel_rfl
  f125 := Try.func119.trans (congrArg some (by kernel_rfl))
  f128 := Try.func149.trans (congrArg some (by kernel_rfl))
  f129 := Try.func150.trans (congrArg some (by kernel_rfl))
  f189 := Try.func101.trans (congrArg some (by kernel_rfl))
  f215 := Try.func165.trans (congrArg some (by kernel_rfl))
  f216 := Try.func146.trans (congrArg some (by kernel_rfl))
  f257 := Try.func118.trans (congrArg some (by kernel_rfl))
  f294 := Try.func140.trans (congrArg some (by kernel_rfl))
  f295 := Try.func141.trans (congrArg some (by kernel_rfl))
  f296 := Try.func142.trans (congrArg some (by kernel_rfl))
  f297 := Try.func143.trans (congrArg some (by kernel_rfl))
  f298 := Try.func144.trans (congrArg some (by kernel_rfl))
  f299 := Try.func145.trans (congrArg some (by kernel_rfl))
  f300 := Try.func147.trans (congrArg some (by kernel_rfl))
  f301 := Try.func148.trans (congrArg some (by kernel_rfl))
  f328 := Try.func160.trans (congrArg some (by kernel_rfl))
  f329 := Try.func161.trans (congrArg some (by kernel_rfl))
  f330 := Try.func162.trans (congrArg some (by kernel_rfl))
  f331 := Try.func163.trans (congrArg some (by kernel_rfl))
  f332 := Try.func164.trans (congrArg some (by kernel_rfl))
  f343 := Try.func169.trans (congrArg some (by kernel_rfl))
  t0 := Try.underlying0
  a0 := Try.isAgg0
  z0 := Try.sizeOf0
  v0 := Try.zeroValue0
  t3 := Try.underlying3
  a3 := Try.isAgg3
  z3 := Try.sizeOf3
  v3 := Try.zeroValue3
  t4 := Try.underlying4
  a4 := Try.isAgg4
  z4 := Try.sizeOf4
  v4 := Try.zeroValue4
  t5 := Try.underlying5
  a5 := Try.isAgg5
  z5 := Try.sizeOf5
  v5 := Try.zeroValue5
  t9 := Try.underlying9
  a9 := Try.isAgg9
  z9 := Try.sizeOf9
  v9 := Try.zeroValue9
  t28 := Try.underlying35
  a28 := Try.isAgg35
  z28 := Try.sizeOf35
  v28 := Try.zeroValue35
  t46 := Try.underlying183
  a46 := Try.isAgg183
  z46 := Try.sizeOf183
  v46 := Try.zeroValue183
  t51 := Try.underlying215
  a51 := Try.isAgg215
  z51 := Try.sizeOf215
  v51 := Try.zeroValue215
  t53 := Try.underlying217
  a53 := Try.isAgg217
  z53 := Try.sizeOf217
  v53 := Try.zeroValue217
  t131 := Try.underlying60
  a131 := Try.isAgg60
  z131 := Try.sizeOf60
  v131 := Try.zeroValue60
  t182 := Try.underlying208
  a182 := Try.isAgg208
  z182 := Try.sizeOf208
  v182 := Try.zeroValue208
  t183 := Try.underlying209
  a183 := Try.isAgg209
  z183 := Try.sizeOf209
  v183 := Try.zeroValue209
  t218 := Try.underlying228
  a218 := Try.isAgg228
  z218 := Try.sizeOf228
  v218 := Try.zeroValue228
  t222 := Try.underlying232
  a222 := Try.isAgg232
  z222 := Try.sizeOf232
  v222 := Try.zeroValue232
  t228 := Try.underlying240
  a228 := Try.isAgg240
  z228 := Try.sizeOf240
  v228 := Try.zeroValue240
  t229 := Try.underlying241
  a229 := Try.isAgg241
  z229 := Try.sizeOf241
  v229 := Try.zeroValue241
def slices_Sort_c : PI := sortPI
theorem slices_Sort_ok : PIOK Try.prog 101 slices_Sort_c := sort_ok lays189 (fn := Try.f101) Try.func101 (by kernel_rfl) (by kernel_rfl)
end Go.XD


/- A function of the library is in the program. -/
namespace Go.XD
open Go.Proofs Go.Shelf

def ren20 : Go.Shelf.Ren := ⟨fun | 20 => 102 | n => n, fun | 0 => 0 | 3 => 3 | 4 => 4 | 22 => 35 | n => n, fun n => n⟩
theorem lays20 : Lays2.n20 Try.prog ren20 where
  mixed := by kernel_rfl
  f20 := Try.func102.trans (congrArg some (by kernel_rfl))
  t0 := Try.underlying0
  a0 := Try.isAgg0
  z0 := Try.sizeOf0
  v0 := Try.zeroValue0
  t3 := Try.underlying3
  a3 := Try.isAgg3
  z3 := Try.sizeOf3
  v3 := Try.zeroValue3
  t4 := Try.underlying4
  a4 := Try.isAgg4
  z4 := Try.sizeOf4
  v4 := Try.zeroValue4
  t22 := Try.underlying35
  a22 := Try.isAgg35
  z22 := Try.sizeOf35
  v22 := Try.zeroValue35
  i3 := by kernel_rfl
def slices_Compact_c : PI := compactPI
theorem slices_Compact_ok : PIOK Try.prog 102 slices_Compact_c := compact_ok lays20 (fn := Try.f102) Try.func102 (by kernel_rfl) (by kernel_rfl)
end Go.XD


namespace Go.XD
open Go.Proofs

abbrev t_api_Slot : Ty := (.st (.cons (.int .i64) (.cons .bool .nil)))
abbrev V_api_Slot : Type := (Int × Bool × Unit)
abbrev t_api_Type : Ty := (.st (.cons (.lst t_api_Slot) .nil))
abbrev V_api_Type : Type := ((List V_api_Slot) × Unit)

/-! ### easement/easementref15.Few: function 21 -/
noncomputable def ref15_Few_code : Code := Try.f21.body.getD .skip
noncomputable def ref15_Few_fs : List (Nat × Ctr) := []
noncomputable def ref15_Few_is : List (Nat × List PI) := []
theorem ref15_Few_fsok : FsOK Try.prog ref15_Few_fs := trivial
theorem ref15_Few_isok : IsOK Try.prog ref15_Few_is := trivial
def ref15_Few_fz : List (Nat × List Nat) := []
noncomputable def ref15_Few_ls0 : List (Nat × LCtr) := []
theorem ref15_Few_lsok0 : LsOK Try.prog Try.f21.ntmps ref15_Few_code ref15_Few_ls0 := trivial
noncomputable def ref15_Few (x : (V_api_Type × Int × Unit)) : Option (Bool × Unit) :=
  some (decide ((x.1.1.length : Int) ≤ x.2.1), ())
noncomputable def ref15_Few_c : Ctr := ⟨(.cons t_api_Type (.cons (.int .i64) .nil)), (.cons .bool .nil), ref15_Few, none⟩
theorem ref15_Few_ok : CtrOK Try.prog 21 ref15_Few_c :=
  fun_at (fz := ref15_Few_fz) ref15_Few_fsok ref15_Few_isok Try.func21 (by kernel_rfl) (c := ref15_Few_code) (by kernel_rfl) ref15_Few_lsok0 (by kernel_rfl) (fun x => by kernel_rfl)
/-! ### easement/row.Ref: function 28 -/
noncomputable def row_Ref_code : Code := Try.f28.body.getD .skip
noncomputable def row_Ref_fs : List (Nat × Ctr) := []
noncomputable def row_Ref_is : List (Nat × List PI) := []
theorem row_Ref_fsok : FsOK Try.prog row_Ref_fs := trivial
theorem row_Ref_isok : IsOK Try.prog row_Ref_is := trivial
def row_Ref_fz : List (Nat × List Nat) := []
noncomputable def row_Ref_ls0 : List (Nat × LCtr) := []
theorem row_Ref_lsok0 : LsOK Try.prog Try.f28.ntmps row_Ref_code row_Ref_ls0 := trivial
noncomputable def row_Ref_l6_step (g : (((List V_api_Slot) × Unit) × Bool × (List V_api_Slot) × Int × Int × Unit) → Option ((((List V_api_Slot) × Unit) × Unit) ⊕ Empty)) (x : (((List V_api_Slot) × Unit) × Bool × (List V_api_Slot) × Int × Int × Unit)) : Option ((((List V_api_Slot) × Unit) × Unit) ⊕ Empty) :=
  cond (decide (x.2.2.2.2.1 < x.2.2.2.1))
    (ck (inB x.2.2.2.2.1 (x.2.2.1.length)) <|
    let v1 := rdL t_api_Slot x.2.2.1 x.2.2.2.2.1
    let v2 := x.1.1 ++ [(v1.1, cond v1.2.1 true x.2.1, ())]
    ck (roomB v2.length 19) <|
    g ((v2, ()), x.2.1, x.2.2.1, x.2.2.2.1, IntKind.i64.wrap (x.2.2.2.2.1 + (1 : Int)), ()))
    (some (.inl ((x.1.1, ()), ())))
noncomputable def row_Ref_l6 : LCtr := ⟨[7, 2, 15, 16, 17], (.cons (.ptr (.cons (.own t_api_Slot) .nil)) (.cons (.val .bool) (.cons (.val (.lst t_api_Slot)) (.cons (.val (.int .i64)) (.cons (.val (.int .i64)) .nil))))), [some 0, none], [6, 7], [⟨(.exit 0), [7], (.cons (.ptr (.cons (.own t_api_Slot) .nil)) .nil), [some 0, none]⟩], [], lim row_Ref_l6_step⟩
noncomputable def row_Ref_ls1 : List (Nat × LCtr) := (6, row_Ref_l6) :: row_Ref_ls0
theorem row_Ref_lsok1 : LsOK Try.prog Try.f28.ntmps row_Ref_code row_Ref_ls1 :=
  loop_at (L := row_Ref_l6) (fz := row_Ref_fz) row_Ref_fsok row_Ref_isok row_Ref_lsok0 (by kernel_rfl) (by kernel_rfl) (by kernel_rfl) (step := row_Ref_l6_step) rfl (fun g x => by kernel_rfl)
noncomputable def row_Ref (x : (V_api_Type × Int × Bool × Unit)) : Option (V_api_Type × Unit) :=
  Option.bind (lim row_Ref_l6_step (([(x.2.1, false, ())], ()), x.2.2.1, x.1.1, (x.1.1.length : Int), (0 : Int), ())) fun y1 => out1 y1
    (fun z2 =>
      some ((z2.1.1, ()), ()))
noncomputable def row_Ref_c : Ctr := ⟨(.cons t_api_Type (.cons (.int .i64) (.cons .bool .nil))), (.cons t_api_Type .nil), row_Ref, none⟩
theorem row_Ref_ok : CtrOK Try.prog 28 row_Ref_c :=
  fun_at (fz := row_Ref_fz) row_Ref_fsok row_Ref_isok Try.func28 (by kernel_rfl) (c := row_Ref_code) (by kernel_rfl) row_Ref_lsok1 (by kernel_rfl) (fun x => by kernel_rfl)
/-! ### easement/easementref15.Shape: function 74 -/
noncomputable def ref15_Shape_code : Code := Try.f74.body.getD .skip
noncomputable def ref15_Shape_fs : List (Nat × Ctr) := []
noncomputable def ref15_Shape_is : List (Nat × List PI) := []
theorem ref15_Shape_fsok : FsOK Try.prog ref15_Shape_fs := trivial
theorem ref15_Shape_isok : IsOK Try.prog ref15_Shape_is := trivial
def ref15_Shape_fz : List (Nat × List Nat) := []
noncomputable def ref15_Shape_ls0 : List (Nat × LCtr) := []
theorem ref15_Shape_lsok0 : LsOK Try.prog Try.f74.ntmps ref15_Shape_code ref15_Shape_ls0 := trivial
noncomputable def ref15_Shape_l8_step (g : (((List V_api_Slot) × Unit) × ((List V_api_Slot) × Unit) × Int × Unit) → Option ((Bool × ((List V_api_Slot) × Unit) × ((List V_api_Slot) × Unit) × Unit) ⊕ ((((List V_api_Slot) × Unit) × ((List V_api_Slot) × Unit) × Unit) ⊕ Empty))) (x : (((List V_api_Slot) × Unit) × ((List V_api_Slot) × Unit) × Int × Unit)) : Option ((Bool × ((List V_api_Slot) × Unit) × ((List V_api_Slot) × Unit) × Unit) ⊕ ((((List V_api_Slot) × Unit) × ((List V_api_Slot) × Unit) × Unit) ⊕ Empty)) :=
  cond (decide (x.2.2.1 < (x.1.1.length : Int)))
    (ck (inB x.2.2.1 (x.1.1.length)) <|
    ck (inB x.2.2.1 (x.2.1.1.length)) <|
    cond (!((rdL t_api_Slot x.1.1 x.2.2.1).2.1 == (rdL t_api_Slot x.2.1.1 x.2.2.1).2.1))
      (some (.inl (false, (x.1.1, ()), (x.2.1.1, ()), ())))
      (g ((x.1.1, ()), (x.2.1.1, ()), IntKind.i64.wrap (x.2.2.1 + (1 : Int)), ())))
    (some (.inr (.inl ((x.1.1, ()), (x.2.1.1, ()), ()))))
noncomputable def ref15_Shape_l8 : LCtr := ⟨[2, 3, 5], (.cons (.ptr (.cons (.val (.lst t_api_Slot)) .nil)) (.cons (.ptr (.cons (.val (.lst t_api_Slot)) .nil)) (.cons (.val (.int .i64)) .nil))), [some 0, some 1], [], [⟨.ret, [4, 2, 3], (.cons (.val .bool) (.cons (.ptr (.cons (.val (.lst t_api_Slot)) .nil)) (.cons (.ptr (.cons (.val (.lst t_api_Slot)) .nil)) .nil))), [some 0, some 1]⟩, ⟨(.exit 0), [2, 3], (.cons (.ptr (.cons (.val (.lst t_api_Slot)) .nil)) (.cons (.ptr (.cons (.val (.lst t_api_Slot)) .nil)) .nil)), [some 0, some 1]⟩], [], lim ref15_Shape_l8_step⟩
noncomputable def ref15_Shape_ls1 : List (Nat × LCtr) := (8, ref15_Shape_l8) :: ref15_Shape_ls0
theorem ref15_Shape_lsok1 : LsOK Try.prog Try.f74.ntmps ref15_Shape_code ref15_Shape_ls1 :=
  loop_at (L := ref15_Shape_l8) (fz := ref15_Shape_fz) ref15_Shape_fsok ref15_Shape_isok ref15_Shape_lsok0 (by kernel_rfl) (by kernel_rfl) (by kernel_rfl) (step := ref15_Shape_l8_step) rfl (fun g x => by kernel_rfl)
noncomputable def ref15_Shape (x : (V_api_Type × V_api_Type × Unit)) : Option (Bool × Unit) :=
  cond ((x.1.1.length : Int) != (x.2.1.1.length : Int))
    (some (false, ()))
    (Option.bind (lim ref15_Shape_l8_step ((x.1.1, ()), (x.2.1.1, ()), (0 : Int), ())) fun y1 => out2 y1
      (fun z2 =>
        some (z2.1, ()))
      (fun z3 =>
        some (true, ())))
noncomputable def ref15_Shape_c : Ctr := ⟨(.cons t_api_Type (.cons t_api_Type .nil)), (.cons .bool .nil), ref15_Shape, none⟩
theorem ref15_Shape_ok : CtrOK Try.prog 74 ref15_Shape_c :=
  fun_at (fz := ref15_Shape_fz) ref15_Shape_fsok ref15_Shape_isok Try.func74 (by kernel_rfl) (c := ref15_Shape_code) (by kernel_rfl) ref15_Shape_lsok1 (by kernel_rfl) (fun x => by kernel_rfl)
/-! ### easement/easementref15.Same: function 27 -/
noncomputable def ref15_Same_code : Code := Try.f27.body.getD .skip
noncomputable def ref15_Same_fs : List (Nat × Ctr) := [(74, ref15_Shape_c)]
noncomputable def ref15_Same_is : List (Nat × List PI) := []
theorem ref15_Same_fsok : FsOK Try.prog ref15_Same_fs := ⟨ref15_Shape_ok, trivial⟩
theorem ref15_Same_isok : IsOK Try.prog ref15_Same_is := trivial
def ref15_Same_fz : List (Nat × List Nat) := []
noncomputable def ref15_Same_ls0 : List (Nat × LCtr) := []
theorem ref15_Same_lsok0 : LsOK Try.prog Try.f27.ntmps ref15_Same_code ref15_Same_ls0 := trivial
noncomputable def ref15_Same_l8_step (g : (((List V_api_Slot) × Unit) × ((List V_api_Slot) × Unit) × Int × Unit) → Option ((Bool × ((List V_api_Slot) × Unit) × ((List V_api_Slot) × Unit) × Unit) ⊕ ((((List V_api_Slot) × Unit) × ((List V_api_Slot) × Unit) × Unit) ⊕ Empty))) (x : (((List V_api_Slot) × Unit) × ((List V_api_Slot) × Unit) × Int × Unit)) : Option ((Bool × ((List V_api_Slot) × Unit) × ((List V_api_Slot) × Unit) × Unit) ⊕ ((((List V_api_Slot) × Unit) × ((List V_api_Slot) × Unit) × Unit) ⊕ Empty)) :=
  cond (decide (x.2.2.1 < (x.1.1.length : Int)))
    (ck (inB x.2.2.1 (x.1.1.length)) <|
    ck (inB x.2.2.1 (x.2.1.1.length)) <|
    cond ((rdL t_api_Slot x.1.1 x.2.2.1).1 != (rdL t_api_Slot x.2.1.1 x.2.2.1).1)
      (some (.inl (false, (x.1.1, ()), (x.2.1.1, ()), ())))
      (g ((x.1.1, ()), (x.2.1.1, ()), IntKind.i64.wrap (x.2.2.1 + (1 : Int)), ())))
    (some (.inr (.inl ((x.1.1, ()), (x.2.1.1, ()), ()))))
noncomputable def ref15_Same_l8 : LCtr := ⟨[2, 3, 5], (.cons (.ptr (.cons (.val (.lst t_api_Slot)) .nil)) (.cons (.ptr (.cons (.val (.lst t_api_Slot)) .nil)) (.cons (.val (.int .i64)) .nil))), [some 0, some 1], [], [⟨.ret, [4, 2, 3], (.cons (.val .bool) (.cons (.ptr (.cons (.val (.lst t_api_Slot)) .nil)) (.cons (.ptr (.cons (.val (.lst t_api_Slot)) .nil)) .nil))), [some 0, some 1]⟩, ⟨(.exit 0), [2, 3], (.cons (.ptr (.cons (.val (.lst t_api_Slot)) .nil)) (.cons (.ptr (.cons (.val (.lst t_api_Slot)) .nil)) .nil)), [some 0, some 1]⟩], [], lim ref15_Same_l8_step⟩
noncomputable def ref15_Same_ls1 : List (Nat × LCtr) := (8, ref15_Same_l8) :: ref15_Same_ls0
theorem ref15_Same_lsok1 : LsOK Try.prog Try.f27.ntmps ref15_Same_code ref15_Same_ls1 :=
  loop_at (L := ref15_Same_l8) (fz := ref15_Same_fz) ref15_Same_fsok ref15_Same_isok ref15_Same_lsok0 (by kernel_rfl) (by kernel_rfl) (by kernel_rfl) (step := ref15_Same_l8_step) rfl (fun g x => by kernel_rfl)
noncomputable def ref15_Same (x : (V_api_Type × V_api_Type × Unit)) : Option (Bool × Unit) :=
  Option.bind (ref15_Shape ((x.1.1, ()), (x.2.1.1, ()), ())) fun y1 =>
  cond (!y1.1)
    (some (false, ()))
    (Option.bind (lim ref15_Same_l8_step ((x.1.1, ()), (x.2.1.1, ()), (0 : Int), ())) fun y2 => out2 y2
      (fun z3 =>
        some (z3.1, ()))
      (fun z4 =>
        some (true, ())))
noncomputable def ref15_Same_c : Ctr := ⟨(.cons t_api_Type (.cons t_api_Type .nil)), (.cons .bool .nil), ref15_Same, none⟩
theorem ref15_Same_ok : CtrOK Try.prog 27 ref15_Same_c :=
  fun_at (fz := ref15_Same_fz) ref15_Same_fsok ref15_Same_isok Try.func27 (by kernel_rfl) (c := ref15_Same_code) (by kernel_rfl) ref15_Same_lsok1 (by kernel_rfl) (fun x => by kernel_rfl)
/-! ### easement/row.Has$1: function 104, at objects -/
noncomputable def row_Has_1_p0_code : Code := Try.f104.body.getD .skip
noncomputable def row_Has_1_p0_fs : List (Nat × Ctr) := []
noncomputable def row_Has_1_p0_is : List (Nat × List PI) := []
theorem row_Has_1_p0_fsok : FsOK Try.prog row_Has_1_p0_fs := trivial
theorem row_Has_1_p0_isok : IsOK Try.prog row_Has_1_p0_is := trivial
def row_Has_1_p0_fz : List (Nat × List Nat) := []
noncomputable def row_Has_1_p0_ls0 : List (Nat × LCtr) := []
theorem row_Has_1_p0_lsok0 : LsOK Try.prog Try.f104.ntmps row_Has_1_p0_code row_Has_1_p0_ls0 := trivial
noncomputable def row_Has_1_p0 (x : (V_api_Slot × (Int × Unit) × Unit)) : Option ((Bool × (Int × Unit) × Unit) ⊕ Empty) :=
  some (.inl (x.1.1 == x.2.1.1, (x.2.1.1, ()), ()))
noncomputable def row_Has_1_p0_L : LCtr := ⟨[0, 1], (.cons (.val t_api_Slot) (.cons (.ptr (.cons (.val (.int .i64)) .nil)) .nil)), [], [], [⟨.ret, [3, 1], (.cons (.val .bool) (.cons (.ptr (.cons (.val (.int .i64)) .nil)) .nil)), [some 0]⟩], [], row_Has_1_p0⟩
noncomputable def row_Has_1_p0_c : PI := ⟨Try.f104.ntmps, row_Has_1_p0_code, Try.f104.results.toList, row_Has_1_p0_L⟩
theorem row_Has_1_p0_ok : PIOK Try.prog 104 row_Has_1_p0_c :=
  proc_at (L := row_Has_1_p0_L) (fz := row_Has_1_p0_fz) row_Has_1_p0_fsok row_Has_1_p0_isok Try.func104 (by kernel_rfl) (by kernel_rfl) row_Has_1_p0_lsok0 (by kernel_rfl) (fun x => by kernel_rfl)
/-! ### slices.IndexFunc[[]easement/api.Slot,easement/api.Slot]: function 120, at objects -/
noncomputable def slices_IndexFunc_120_p0_code : Code := Try.f120.body.getD .skip
noncomputable def slices_IndexFunc_120_p0_fs : List (Nat × Ctr) := []
noncomputable def slices_IndexFunc_120_p0_is : List (Nat × List PI) := [(104, [row_Has_1_p0_c])]
theorem slices_IndexFunc_120_p0_fsok : FsOK Try.prog slices_IndexFunc_120_p0_fs := trivial
theorem slices_IndexFunc_120_p0_isok : IsOK Try.prog slices_IndexFunc_120_p0_is := ⟨⟨row_Has_1_p0_ok, trivial⟩, trivial⟩
def slices_IndexFunc_120_p0_fz : List (Nat × List Nat) := []
noncomputable def slices_IndexFunc_120_p0_ls0 : List (Nat × LCtr) := []
theorem slices_IndexFunc_120_p0_lsok0 : LsOK Try.prog Try.f120.ntmps slices_IndexFunc_120_p0_code slices_IndexFunc_120_p0_ls0 := trivial
noncomputable def slices_IndexFunc_120_p0_l4_step (g : ((List V_api_Slot) × ((Int × Unit) × Unit) × Int × Int × Unit) → Option ((Int × ((Int × Unit) × Unit) × Unit) ⊕ ((((Int × Unit) × Unit) × Unit) ⊕ Empty))) (x : ((List V_api_Slot) × ((Int × Unit) × Unit) × Int × Int × Unit)) : Option ((Int × ((Int × Unit) × Unit) × Unit) ⊕ ((((Int × Unit) × Unit) × Unit) ⊕ Empty)) :=
  cond (decide (x.2.2.2.1 < x.2.2.1))
    (ck (inB x.2.2.2.1 (x.1.length)) <|
    let v1 := rdL t_api_Slot x.1 x.2.2.2.1
    Option.bind (row_Has_1_p0 ((v1.1, v1.2.1, ()), (x.2.1.1.1, ()), ())) fun y1 => out1 y1
      (fun z2 =>
        cond (z2.1)
          (some (.inl (x.2.2.2.1, ((z2.2.1.1, ()), ()), ())))
          (g (x.1, ((z2.2.1.1, ()), ()), x.2.2.1, IntKind.i64.wrap (x.2.2.2.1 + (1 : Int)), ()))))
    (some (.inr (.inl (((x.2.1.1.1, ()), ()), ()))))
noncomputable def slices_IndexFunc_120_p0_l4 : LCtr := ⟨[0, 1, 7, 8], (.cons (.val (.lst t_api_Slot)) (.cons (.clo 104 (.cons (.ptr (.cons (.val (.int .i64)) .nil)) .nil)) (.cons (.val (.int .i64)) (.cons (.val (.int .i64)) .nil)))), [some 0], [0, 1], [⟨.ret, [4, 1], (.cons (.val (.int .i64)) (.cons (.clo 104 (.cons (.ptr (.cons (.val (.int .i64)) .nil)) .nil)) .nil)), [some 0]⟩, ⟨(.exit 0), [1], (.cons (.clo 104 (.cons (.ptr (.cons (.val (.int .i64)) .nil)) .nil)) .nil), [some 0]⟩], [], lim slices_IndexFunc_120_p0_l4_step⟩
noncomputable def slices_IndexFunc_120_p0_ls1 : List (Nat × LCtr) := (4, slices_IndexFunc_120_p0_l4) :: slices_IndexFunc_120_p0_ls0
theorem slices_IndexFunc_120_p0_lsok1 : LsOK Try.prog Try.f120.ntmps slices_IndexFunc_120_p0_code slices_IndexFunc_120_p0_ls1 :=
  loop_at (L := slices_IndexFunc_120_p0_l4) (fz := slices_IndexFunc_120_p0_fz) slices_IndexFunc_120_p0_fsok slices_IndexFunc_120_p0_isok slices_IndexFunc_120_p0_lsok0 (by kernel_rfl) (by kernel_rfl) (by kernel_rfl) (step := slices_IndexFunc_120_p0_l4_step) rfl (fun g x => by kernel_rfl)
noncomputable def slices_IndexFunc_120_p0 (x : ((List V_api_Slot) × ((Int × Unit) × Unit) × Unit)) : Option ((Int × ((Int × Unit) × Unit) × Unit) ⊕ Empty) :=
  Option.bind (lim slices_IndexFunc_120_p0_l4_step (x.1, ((x.2.1.1.1, ()), ()), (x.1.length : Int), (0 : Int), ())) fun y3 => out2 y3
    (fun z4 =>
      some (.inl (z4.1, ((z4.2.1.1.1, ()), ()), ())))
    (fun z5 =>
      some (.inl ((-1 : Int), ((z5.1.1.1, ()), ()), ())))
noncomputable def slices_IndexFunc_120_p0_L : LCtr := ⟨[0, 1], (.cons (.val (.lst t_api_Slot)) (.cons (.clo 104 (.cons (.ptr (.cons (.val (.int .i64)) .nil)) .nil)) .nil)), [], [], [⟨.ret, [4, 1], (.cons (.val (.int .i64)) (.cons (.clo 104 (.cons (.ptr (.cons (.val (.int .i64)) .nil)) .nil)) .nil)), [some 0]⟩], [], slices_IndexFunc_120_p0⟩
noncomputable def slices_IndexFunc_120_p0_c : PI := ⟨Try.f120.ntmps, slices_IndexFunc_120_p0_code, Try.f120.results.toList, slices_IndexFunc_120_p0_L⟩
theorem slices_IndexFunc_120_p0_ok : PIOK Try.prog 120 slices_IndexFunc_120_p0_c :=
  proc_at (L := slices_IndexFunc_120_p0_L) (fz := slices_IndexFunc_120_p0_fz) slices_IndexFunc_120_p0_fsok slices_IndexFunc_120_p0_isok Try.func120 (by kernel_rfl) (by kernel_rfl) slices_IndexFunc_120_p0_lsok1 (by kernel_rfl) (fun x => by kernel_rfl)
/-! ### slices.ContainsFunc[[]easement/api.Slot,easement/api.Slot]: function 103, at objects -/
noncomputable def slices_ContainsFunc_103_p0_code : Code := Try.f103.body.getD .skip
noncomputable def slices_ContainsFunc_103_p0_fs : List (Nat × Ctr) := []
noncomputable def slices_ContainsFunc_103_p0_is : List (Nat × List PI) := [(120, [slices_IndexFunc_120_p0_c])]
theorem slices_ContainsFunc_103_p0_fsok : FsOK Try.prog slices_ContainsFunc_103_p0_fs := trivial
theorem slices_ContainsFunc_103_p0_isok : IsOK Try.prog slices_ContainsFunc_103_p0_is := ⟨⟨slices_IndexFunc_120_p0_ok, trivial⟩, trivial⟩
def slices_ContainsFunc_103_p0_fz : List (Nat × List Nat) := []
noncomputable def slices_ContainsFunc_103_p0_ls0 : List (Nat × LCtr) := []
theorem slices_ContainsFunc_103_p0_lsok0 : LsOK Try.prog Try.f103.ntmps slices_ContainsFunc_103_p0_code slices_ContainsFunc_103_p0_ls0 := trivial
noncomputable def slices_ContainsFunc_103_p0 (x : ((List V_api_Slot) × ((Int × Unit) × Unit) × Unit)) : Option ((Bool × ((Int × Unit) × Unit) × Unit) ⊕ Empty) :=
  Option.bind (slices_IndexFunc_120_p0 (x.1, ((x.2.1.1.1, ()), ()), ())) fun y1 => out1 y1
    (fun z2 =>
      some (.inl (decide (z2.1 ≥ (0 : Int)), ((z2.2.1.1.1, ()), ()), ())))
noncomputable def slices_ContainsFunc_103_p0_L : LCtr := ⟨[0, 1], (.cons (.val (.lst t_api_Slot)) (.cons (.clo 104 (.cons (.ptr (.cons (.val (.int .i64)) .nil)) .nil)) .nil)), [], [], [⟨.ret, [4, 1], (.cons (.val .bool) (.cons (.clo 104 (.cons (.ptr (.cons (.val (.int .i64)) .nil)) .nil)) .nil)), [some 0]⟩], [], slices_ContainsFunc_103_p0⟩
noncomputable def slices_ContainsFunc_103_p0_c : PI := ⟨Try.f103.ntmps, slices_ContainsFunc_103_p0_code, Try.f103.results.toList, slices_ContainsFunc_103_p0_L⟩
theorem slices_ContainsFunc_103_p0_ok : PIOK Try.prog 103 slices_ContainsFunc_103_p0_c :=
  proc_at (L := slices_ContainsFunc_103_p0_L) (fz := slices_ContainsFunc_103_p0_fz) slices_ContainsFunc_103_p0_fsok slices_ContainsFunc_103_p0_isok Try.func103 (by kernel_rfl) (by kernel_rfl) slices_ContainsFunc_103_p0_lsok0 (by kernel_rfl) (fun x => by kernel_rfl)
/-! ### easement/row.Has: function 77 -/
noncomputable def row_Has_code : Code := Try.f77.body.getD .skip
noncomputable def row_Has_fs : List (Nat × Ctr) := []
noncomputable def row_Has_is : List (Nat × List PI) := [(103, [slices_ContainsFunc_103_p0_c])]
theorem row_Has_fsok : FsOK Try.prog row_Has_fs := trivial
theorem row_Has_isok : IsOK Try.prog row_Has_is := ⟨⟨slices_ContainsFunc_103_p0_ok, trivial⟩, trivial⟩
def row_Has_fz : List (Nat × List Nat) := []
noncomputable def row_Has_ls0 : List (Nat × LCtr) := []
theorem row_Has_lsok0 : LsOK Try.prog Try.f77.ntmps row_Has_code row_Has_ls0 := trivial
noncomputable def row_Has (x : (V_api_Type × Int × Unit)) : Option (Bool × Unit) :=
  Option.bind (slices_ContainsFunc_103_p0 (x.1.1, ((x.2.1, ()), ()), ())) fun y1 => out1 y1
    (fun z2 =>
      some (z2.1, ()))
noncomputable def row_Has_c : Ctr := ⟨(.cons t_api_Type (.cons (.int .i64) .nil)), (.cons .bool .nil), row_Has, none⟩
theorem row_Has_ok : CtrOK Try.prog 77 row_Has_c :=
  fun_at (fz := row_Has_fz) row_Has_fsok row_Has_isok Try.func77 (by kernel_rfl) (c := row_Has_code) (by kernel_rfl) row_Has_lsok0 (by kernel_rfl) (fun x => by kernel_rfl)
/-! ### easement/row.Check: function 42 -/
noncomputable def row_Check_code : Code := Try.f42.body.getD .skip
noncomputable def row_Check_fs : List (Nat × Ctr) := []
noncomputable def row_Check_is : List (Nat × List PI) := []
theorem row_Check_fsok : FsOK Try.prog row_Check_fs := trivial
theorem row_Check_isok : IsOK Try.prog row_Check_is := trivial
def row_Check_fz : List (Nat × List Nat) := []
noncomputable def row_Check_ls0 : List (Nat × LCtr) := []
theorem row_Check_lsok0 : LsOK Try.prog Try.f42.ntmps row_Check_code row_Check_ls0 := trivial
noncomputable def row_Check_l8_step (g : (Int × (List V_api_Slot) × Int × Int × Unit) → Option ((Int × Unit) ⊕ (Unit ⊕ Empty))) (x : (Int × (List V_api_Slot) × Int × Int × Unit)) : Option ((Int × Unit) ⊕ (Unit ⊕ Empty)) :=
  cond (decide (x.2.2.2.1 < x.2.2.1))
    (ck (inB x.2.2.2.1 (x.2.1.length)) <|
    let v1 := (rdL t_api_Slot x.2.1 x.2.2.2.1).1
    cond (cond (decide (v1 < (0 : Int))) true (decide (v1 ≥ x.1)))
      (some (.inl ((7 : Int), ())))
      (g (x.1, x.2.1, x.2.2.1, IntKind.i64.wrap (x.2.2.2.1 + (1 : Int)), ())))
    (some (.inr (.inl ())))
noncomputable def row_Check_l8 : LCtr := ⟨[1, 12, 13, 14], (.cons (.val (.int .i64)) (.cons (.val (.lst t_api_Slot)) (.cons (.val (.int .i64)) (.cons (.val (.int .i64)) .nil)))), [], [], [⟨.ret, [4], (.cons (.val (.int .i64)) .nil), []⟩, ⟨(.exit 0), [], .nil, []⟩], [], lim row_Check_l8_step⟩
noncomputable def row_Check_ls1 : List (Nat × LCtr) := (8, row_Check_l8) :: row_Check_ls0
theorem row_Check_lsok1 : LsOK Try.prog Try.f42.ntmps row_Check_code row_Check_ls1 :=
  loop_at (L := row_Check_l8) (fz := row_Check_fz) row_Check_fsok row_Check_isok row_Check_lsok0 (by kernel_rfl) (by kernel_rfl) (by kernel_rfl) (step := row_Check_l8_step) rfl (fun g x => by kernel_rfl)
noncomputable def row_Check (x : (V_api_Type × Int × Unit)) : Option (Int × Unit) :=
  cond (decide ((x.1.1.length : Int) > (16 : Int)))
    (some ((6 : Int), ()))
    (Option.bind (lim row_Check_l8_step (x.2.1, x.1.1, (x.1.1.length : Int), (0 : Int), ())) fun y1 => out2 y1
      (fun z2 =>
        some (z2.1, ()))
      (fun z3 =>
        some ((0 : Int), ())))
noncomputable def row_Check_c : Ctr := ⟨(.cons t_api_Type (.cons (.int .i64) .nil)), (.cons (.int .i64) .nil), row_Check, none⟩
theorem row_Check_ok : CtrOK Try.prog 42 row_Check_c :=
  fun_at (fz := row_Check_fz) row_Check_fsok row_Check_isok Try.func42 (by kernel_rfl) (c := row_Check_code) (by kernel_rfl) row_Check_lsok1 (by kernel_rfl) (fun x => by kernel_rfl)
/-! ### easement/easementlaw15.awake: function 22 -/
noncomputable def law15_awake_code : Code := Try.f22.body.getD .skip
noncomputable def law15_awake_fs : List (Nat × Ctr) := [(28, row_Ref_c), (27, ref15_Same_c), (77, row_Has_c), (42, row_Check_c)]
noncomputable def law15_awake_is : List (Nat × List PI) := []
theorem law15_awake_fsok : FsOK Try.prog law15_awake_fs := ⟨row_Ref_ok, ref15_Same_ok, row_Has_ok, row_Check_ok, trivial⟩
theorem law15_awake_isok : IsOK Try.prog law15_awake_is := trivial
def law15_awake_fz : List (Nat × List Nat) := []
noncomputable def law15_awake_ls0 : List (Nat × LCtr) := []
theorem law15_awake_lsok0 : LsOK Try.prog Try.f22.ntmps law15_awake_code law15_awake_ls0 := trivial
noncomputable def law15_awake (x : Unit) : Option (Bool × Unit) :=
  Option.bind (row_Ref (([((3 : Int), false, ())], ()), (5 : Int), true, ())) fun y1 =>
  Option.bind (ref15_Same ((y1.1.1, ()), ([((5 : Int), false, ()), ((3 : Int), true, ())], ()), ())) fun y2 =>
  cond (y2.1)
    (Option.bind (row_Has ((y1.1.1, ()), (3 : Int), ())) fun y3 =>
    cond (y3.1)
      (Option.bind (row_Check ((y1.1.1, ()), (5 : Int), ())) fun y4 =>
      some (y4.1 == (7 : Int), ()))
      (some (false, ())))
    (some (false, ()))
noncomputable def law15_awake_c : Ctr := ⟨.nil, (.cons .bool .nil), law15_awake, none⟩
theorem law15_awake_ok : CtrOK Try.prog 22 law15_awake_c :=
  fun_at (fz := law15_awake_fz) law15_awake_fsok law15_awake_isok Try.func22 (by kernel_rfl) (c := law15_awake_code) (by kernel_rfl) law15_awake_lsok0 (by kernel_rfl) (fun x => by kernel_rfl)
/-! ### easement/easementref15.Check: function 41 -/
noncomputable def ref15_Check_code : Code := Try.f41.body.getD .skip
noncomputable def ref15_Check_fs : List (Nat × Ctr) := []
noncomputable def ref15_Check_is : List (Nat × List PI) := []
theorem ref15_Check_fsok : FsOK Try.prog ref15_Check_fs := trivial
theorem ref15_Check_isok : IsOK Try.prog ref15_Check_is := trivial
def ref15_Check_fz : List (Nat × List Nat) := []
noncomputable def ref15_Check_ls0 : List (Nat × LCtr) := []
theorem ref15_Check_lsok0 : LsOK Try.prog Try.f41.ntmps ref15_Check_code ref15_Check_ls0 := trivial
noncomputable def ref15_Check_l8_step (g : (((List V_api_Slot) × Unit) × Int × Int × Unit) → Option ((Int × ((List V_api_Slot) × Unit) × Unit) ⊕ ((((List V_api_Slot) × Unit) × Unit) ⊕ Empty))) (x : (((List V_api_Slot) × Unit) × Int × Int × Unit)) : Option ((Int × ((List V_api_Slot) × Unit) × Unit) ⊕ ((((List V_api_Slot) × Unit) × Unit) ⊕ Empty)) :=
  cond (decide (x.2.2.1 < (x.1.1.length : Int)))
    (ck (inB x.2.2.1 (x.1.1.length)) <|
    let v1 := decide ((rdL t_api_Slot x.1.1 x.2.2.1).1 < (0 : Int))
    ck ((inB x.2.2.1 (x.1.1.length)) || !(!v1)) <|
    cond (cond v1 true (decide ((rdL t_api_Slot x.1.1 x.2.2.1).1 ≥ x.2.1)))
      (some (.inl ((7 : Int), (x.1.1, ()), ())))
      (g ((x.1.1, ()), x.2.1, IntKind.i64.wrap (x.2.2.1 + (1 : Int)), ())))
    (some (.inr (.inl ((x.1.1, ()), ()))))
noncomputable def ref15_Check_l8 : LCtr := ⟨[2, 1, 5], (.cons (.ptr (.cons (.val (.lst t_api_Slot)) .nil)) (.cons (.val (.int .i64)) (.cons (.val (.int .i64)) .nil))), [some 0], [], [⟨.ret, [4, 2], (.cons (.val (.int .i64)) (.cons (.ptr (.cons (.val (.lst t_api_Slot)) .nil)) .nil)), [some 0]⟩, ⟨(.exit 0), [2], (.cons (.ptr (.cons (.val (.lst t_api_Slot)) .nil)) .nil), [some 0]⟩], [], lim ref15_Check_l8_step⟩
noncomputable def ref15_Check_ls1 : List (Nat × LCtr) := (8, ref15_Check_l8) :: ref15_Check_ls0
theorem ref15_Check_lsok1 : LsOK Try.prog Try.f41.ntmps ref15_Check_code ref15_Check_ls1 :=
  loop_at (L := ref15_Check_l8) (fz := ref15_Check_fz) ref15_Check_fsok ref15_Check_isok ref15_Check_lsok0 (by kernel_rfl) (by kernel_rfl) (by kernel_rfl) (step := ref15_Check_l8_step) rfl (fun g x => by kernel_rfl)
noncomputable def ref15_Check (x : (V_api_Type × Int × Unit)) : Option (Int × Unit) :=
  cond (decide ((x.1.1.length : Int) > (16 : Int)))
    (some ((6 : Int), ()))
    (Option.bind (lim ref15_Check_l8_step ((x.1.1, ()), x.2.1, (0 : Int), ())) fun y1 => out2 y1
      (fun z2 =>
        some (z2.1, ()))
      (fun z3 =>
        some ((0 : Int), ())))
noncomputable def ref15_Check_c : Ctr := ⟨(.cons t_api_Type (.cons (.int .i64) .nil)), (.cons (.int .i64) .nil), ref15_Check, none⟩
theorem ref15_Check_ok : CtrOK Try.prog 41 ref15_Check_c :=
  fun_at (fz := ref15_Check_fz) ref15_Check_fsok ref15_Check_isok Try.func41 (by kernel_rfl) (c := ref15_Check_code) (by kernel_rfl) ref15_Check_lsok1 (by kernel_rfl) (fun x => by kernel_rfl)
/-! ### easement/row.Shape$1: function 83 -/
noncomputable def row_Shape_1_code : Code := Try.f83.body.getD .skip
noncomputable def row_Shape_1_fs : List (Nat × Ctr) := []
noncomputable def row_Shape_1_is : List (Nat × List PI) := []
theorem row_Shape_1_fsok : FsOK Try.prog row_Shape_1_fs := trivial
theorem row_Shape_1_isok : IsOK Try.prog row_Shape_1_is := trivial
def row_Shape_1_fz : List (Nat × List Nat) := []
noncomputable def row_Shape_1_ls0 : List (Nat × LCtr) := []
theorem row_Shape_1_lsok0 : LsOK Try.prog Try.f83.ntmps row_Shape_1_code row_Shape_1_ls0 := trivial
noncomputable def row_Shape_1 (x : (V_api_Slot × V_api_Slot × Unit)) : Option (Bool × Unit) :=
  some (x.1.2.1 == x.2.1.2.1, ())
noncomputable def row_Shape_1_c : Ctr := ⟨(.cons t_api_Slot (.cons t_api_Slot .nil)), (.cons .bool .nil), row_Shape_1, none⟩
theorem row_Shape_1_ok : CtrOK Try.prog 83 row_Shape_1_c :=
  fun_at (fz := row_Shape_1_fz) row_Shape_1_fsok row_Shape_1_isok Try.func83 (by kernel_rfl) (c := row_Shape_1_code) (by kernel_rfl) row_Shape_1_lsok0 (by kernel_rfl) (fun x => by kernel_rfl)
/-! ### slices.EqualFunc[[]easement/api.Slot,[]easement/api.Slot,easement/api.Slot,easement/api.Slot]: function 82, at objects -/
noncomputable def slices_EqualFunc_82_p0_code : Code := Try.f82.body.getD .skip
noncomputable def slices_EqualFunc_82_p0_fs : List (Nat × Ctr) := [(83, row_Shape_1_c)]
noncomputable def slices_EqualFunc_82_p0_is : List (Nat × List PI) := []
theorem slices_EqualFunc_82_p0_fsok : FsOK Try.prog slices_EqualFunc_82_p0_fs := ⟨row_Shape_1_ok, trivial⟩
theorem slices_EqualFunc_82_p0_isok : IsOK Try.prog slices_EqualFunc_82_p0_is := trivial
def slices_EqualFunc_82_p0_fz : List (Nat × List Nat) := []
noncomputable def slices_EqualFunc_82_p0_ls0 : List (Nat × LCtr) := []
theorem slices_EqualFunc_82_p0_lsok0 : LsOK Try.prog Try.f82.ntmps slices_EqualFunc_82_p0_code slices_EqualFunc_82_p0_ls0 := trivial
noncomputable def slices_EqualFunc_82_p0_l8_step (g : ((List V_api_Slot) × Unit × (List V_api_Slot) × Int × Int × Unit) → Option ((Bool × Unit) ⊕ (Unit ⊕ Empty))) (x : ((List V_api_Slot) × Unit × (List V_api_Slot) × Int × Int × Unit)) : Option ((Bool × Unit) ⊕ (Unit ⊕ Empty)) :=
  cond (decide (x.2.2.2.2.1 < x.2.2.2.1))
    (ck (inB x.2.2.2.2.1 (x.2.2.1.length)) <|
    ck (inB x.2.2.2.2.1 (x.1.length)) <|
    let v1 := rdL t_api_Slot x.2.2.1 x.2.2.2.2.1
    let v2 := rdL t_api_Slot x.1 x.2.2.2.2.1
    Option.bind (row_Shape_1 ((v1.1, v1.2.1, ()), (v2.1, v2.2.1, ()), ())) fun y1 =>
    cond (!y1.1)
      (some (.inl (false, ())))
      (g (x.1, (), x.2.2.1, x.2.2.2.1, IntKind.i64.wrap (x.2.2.2.2.1 + (1 : Int)), ())))
    (some (.inr (.inl ())))
noncomputable def slices_EqualFunc_82_p0_l8 : LCtr := ⟨[1, 2, 15, 16, 17], (.cons (.val (.lst t_api_Slot)) (.cons (.clo 83 .nil) (.cons (.val (.lst t_api_Slot)) (.cons (.val (.int .i64)) (.cons (.val (.int .i64)) .nil))))), [], [0, 1, 2], [⟨.ret, [6], (.cons (.val .bool) .nil), []⟩, ⟨(.exit 0), [], .nil, []⟩], [], lim slices_EqualFunc_82_p0_l8_step⟩
noncomputable def slices_EqualFunc_82_p0_ls1 : List (Nat × LCtr) := (8, slices_EqualFunc_82_p0_l8) :: slices_EqualFunc_82_p0_ls0
theorem slices_EqualFunc_82_p0_lsok1 : LsOK Try.prog Try.f82.ntmps slices_EqualFunc_82_p0_code slices_EqualFunc_82_p0_ls1 :=
  loop_at (L := slices_EqualFunc_82_p0_l8) (fz := slices_EqualFunc_82_p0_fz) slices_EqualFunc_82_p0_fsok slices_EqualFunc_82_p0_isok slices_EqualFunc_82_p0_lsok0 (by kernel_rfl) (by kernel_rfl) (by kernel_rfl) (step := slices_EqualFunc_82_p0_l8_step) rfl (fun g x => by kernel_rfl)
noncomputable def slices_EqualFunc_82_p0 (x : ((List V_api_Slot) × (List V_api_Slot) × Unit × Unit)) : Option ((Bool × Unit) ⊕ Empty) :=
  cond ((x.1.length : Int) != (x.2.1.length : Int))
    (some (.inl (false, ())))
    (Option.bind (lim slices_EqualFunc_82_p0_l8_step (x.2.1, (), x.1, (x.1.length : Int), (0 : Int), ())) fun y2 => out2 y2
      (fun z3 =>
        some (.inl (z3.1, ())))
      (fun z4 =>
        some (.inl (true, ()))))
noncomputable def slices_EqualFunc_82_p0_L : LCtr := ⟨[0, 1, 2], (.cons (.val (.lst t_api_Slot)) (.cons (.val (.lst t_api_Slot)) (.cons (.clo 83 .nil) .nil))), [], [], [⟨.ret, [6], (.cons (.val .bool) .nil), []⟩], [], slices_EqualFunc_82_p0⟩
noncomputable def slices_EqualFunc_82_p0_c : PI := ⟨Try.f82.ntmps, slices_EqualFunc_82_p0_code, Try.f82.results.toList, slices_EqualFunc_82_p0_L⟩
theorem slices_EqualFunc_82_p0_ok : PIOK Try.prog 82 slices_EqualFunc_82_p0_c :=
  proc_at (L := slices_EqualFunc_82_p0_L) (fz := slices_EqualFunc_82_p0_fz) slices_EqualFunc_82_p0_fsok slices_EqualFunc_82_p0_isok Try.func82 (by kernel_rfl) (by kernel_rfl) slices_EqualFunc_82_p0_lsok1 (by kernel_rfl) (fun x => by kernel_rfl)
/-! ### easement/row.Shape: function 43 -/
noncomputable def row_Shape_code : Code := Try.f43.body.getD .skip
noncomputable def row_Shape_fs : List (Nat × Ctr) := []
noncomputable def row_Shape_is : List (Nat × List PI) := [(82, [slices_EqualFunc_82_p0_c])]
theorem row_Shape_fsok : FsOK Try.prog row_Shape_fs := trivial
theorem row_Shape_isok : IsOK Try.prog row_Shape_is := ⟨⟨slices_EqualFunc_82_p0_ok, trivial⟩, trivial⟩
def row_Shape_fz : List (Nat × List Nat) := []
noncomputable def row_Shape_ls0 : List (Nat × LCtr) := []
theorem row_Shape_lsok0 : LsOK Try.prog Try.f43.ntmps row_Shape_code row_Shape_ls0 := trivial
noncomputable def row_Shape (x : (V_api_Type × V_api_Type × Unit)) : Option (Bool × Unit) :=
  Option.bind (slices_EqualFunc_82_p0 (x.1.1, x.2.1.1, (), ())) fun y1 => out1 y1
    (fun z2 =>
      some (z2.1, ()))
noncomputable def row_Shape_c : Ctr := ⟨(.cons t_api_Type (.cons t_api_Type .nil)), (.cons .bool .nil), row_Shape, none⟩
theorem row_Shape_ok : CtrOK Try.prog 43 row_Shape_c :=
  fun_at (fz := row_Shape_fz) row_Shape_fsok row_Shape_isok Try.func43 (by kernel_rfl) (c := row_Shape_code) (by kernel_rfl) row_Shape_lsok0 (by kernel_rfl) (fun x => by kernel_rfl)
/-! ### slices.Equal[[]easement/api.Slot,easement/api.Slot]: function 84 -/
noncomputable def slices_Equal_84_code : Code := Try.f84.body.getD .skip
noncomputable def slices_Equal_84_fs : List (Nat × Ctr) := []
noncomputable def slices_Equal_84_is : List (Nat × List PI) := []
theorem slices_Equal_84_fsok : FsOK Try.prog slices_Equal_84_fs := trivial
theorem slices_Equal_84_isok : IsOK Try.prog slices_Equal_84_is := trivial
def slices_Equal_84_fz : List (Nat × List Nat) := []
noncomputable def slices_Equal_84_ls0 : List (Nat × LCtr) := []
theorem slices_Equal_84_lsok0 : LsOK Try.prog Try.f84.ntmps slices_Equal_84_code slices_Equal_84_ls0 := trivial
noncomputable def slices_Equal_84_l8_step (g : ((List V_api_Slot) × (List V_api_Slot) × Int × Int × Unit) → Option ((Bool × Unit) ⊕ (Unit ⊕ Empty))) (x : ((List V_api_Slot) × (List V_api_Slot) × Int × Int × Unit)) : Option ((Bool × Unit) ⊕ (Unit ⊕ Empty)) :=
  cond (decide (x.2.2.2.1 < x.2.2.1))
    (ck (inB x.2.2.2.1 (x.1.length)) <|
    ck (inB x.2.2.2.1 (x.2.1.length)) <|
    let v1 := rdL t_api_Slot x.1 x.2.2.2.1
    let v2 := rdL t_api_Slot x.2.1 x.2.2.2.1
    cond (!((v1.1 == v2.1) && ((v1.2.1 == v2.2.1) && true)))
      (some (.inl (false, ())))
      (g (x.1, x.2.1, x.2.2.1, IntKind.i64.wrap (x.2.2.2.1 + (1 : Int)), ())))
    (some (.inr (.inl ())))
noncomputable def slices_Equal_84_l8 : LCtr := ⟨[0, 1, 12, 13], (.cons (.val (.lst t_api_Slot)) (.cons (.val (.lst t_api_Slot)) (.cons (.val (.int .i64)) (.cons (.val (.int .i64)) .nil)))), [], [], [⟨.ret, [4], (.cons (.val .bool) .nil), []⟩, ⟨(.exit 0), [], .nil, []⟩], [], lim slices_Equal_84_l8_step⟩
noncomputable def slices_Equal_84_ls1 : List (Nat × LCtr) := (8, slices_Equal_84_l8) :: slices_Equal_84_ls0
theorem slices_Equal_84_lsok1 : LsOK Try.prog Try.f84.ntmps slices_Equal_84_code slices_Equal_84_ls1 :=
  loop_at (L := slices_Equal_84_l8) (fz := slices_Equal_84_fz) slices_Equal_84_fsok slices_Equal_84_isok slices_Equal_84_lsok0 (by kernel_rfl) (by kernel_rfl) (by kernel_rfl) (step := slices_Equal_84_l8_step) rfl (fun g x => by kernel_rfl)
noncomputable def slices_Equal_84 (x : ((List V_api_Slot) × (List V_api_Slot) × Unit)) : Option (Bool × Unit) :=
  cond ((x.1.length : Int) != (x.2.1.length : Int))
    (some (false, ()))
    (Option.bind (lim slices_Equal_84_l8_step (x.1, x.2.1, (x.1.length : Int), (0 : Int), ())) fun y1 => out2 y1
      (fun z2 =>
        some (z2.1, ()))
      (fun z3 =>
        some (true, ())))
noncomputable def slices_Equal_84_c : Ctr := ⟨(.cons (.lst t_api_Slot) (.cons (.lst t_api_Slot) .nil)), (.cons .bool .nil), slices_Equal_84, none⟩
theorem slices_Equal_84_ok : CtrOK Try.prog 84 slices_Equal_84_c :=
  fun_at (fz := slices_Equal_84_fz) slices_Equal_84_fsok slices_Equal_84_isok Try.func84 (by kernel_rfl) (c := slices_Equal_84_code) (by kernel_rfl) slices_Equal_84_lsok1 (by kernel_rfl) (fun x => by kernel_rfl)
/-! ### easement/row.Same: function 45 -/
noncomputable def row_Same_code : Code := Try.f45.body.getD .skip
noncomputable def row_Same_fs : List (Nat × Ctr) := [(84, slices_Equal_84_c)]
noncomputable def row_Same_is : List (Nat × List PI) := []
theorem row_Same_fsok : FsOK Try.prog row_Same_fs := ⟨slices_Equal_84_ok, trivial⟩
theorem row_Same_isok : IsOK Try.prog row_Same_is := trivial
def row_Same_fz : List (Nat × List Nat) := []
noncomputable def row_Same_ls0 : List (Nat × LCtr) := []
theorem row_Same_lsok0 : LsOK Try.prog Try.f45.ntmps row_Same_code row_Same_ls0 := trivial
noncomputable def row_Same (x : (V_api_Type × V_api_Type × Unit)) : Option (Bool × Unit) :=
  Option.bind (slices_Equal_84 (x.1.1, x.2.1.1, ())) fun y1 =>
  some (y1.1, ())
noncomputable def row_Same_c : Ctr := ⟨(.cons t_api_Type (.cons t_api_Type .nil)), (.cons .bool .nil), row_Same, none⟩
theorem row_Same_ok : CtrOK Try.prog 45 row_Same_c :=
  fun_at (fz := row_Same_fz) row_Same_fsok row_Same_isok Try.func45 (by kernel_rfl) (c := row_Same_code) (by kernel_rfl) row_Same_lsok0 (by kernel_rfl) (fun x => by kernel_rfl)
/-! ### slices.Clone[[]easement/api.Slot,easement/api.Slot]: function 80 -/
noncomputable def slices_Clone_80_code : Code := Try.f80.body.getD .skip
noncomputable def slices_Clone_80_fs : List (Nat × Ctr) := []
noncomputable def slices_Clone_80_is : List (Nat × List PI) := []
theorem slices_Clone_80_fsok : FsOK Try.prog slices_Clone_80_fs := trivial
theorem slices_Clone_80_isok : IsOK Try.prog slices_Clone_80_is := trivial
def slices_Clone_80_fz : List (Nat × List Nat) := []
noncomputable def slices_Clone_80_ls0 : List (Nat × LCtr) := []
theorem slices_Clone_80_lsok0 : LsOK Try.prog Try.f80.ntmps slices_Clone_80_code slices_Clone_80_ls0 := trivial
noncomputable def slices_Clone_80 (x : ((List V_api_Slot) × Unit)) : Option ((List V_api_Slot) × Unit) :=
  cond (x.1.isEmpty) (agree
    (some (([] : List V_api_Slot), ()))
    (let v1 := ([] : List V_api_Slot) ++ x.1
    ck (roomB v1.length 19) <|
    some (v1, ())))
    (let v1 := ([] : List V_api_Slot) ++ x.1
    ck (roomB v1.length 19) <|
    some (v1, ()))
noncomputable def slices_Clone_80_c : Ctr := ⟨(.cons (.lst t_api_Slot) .nil), (.cons (.lst t_api_Slot) .nil), slices_Clone_80, none⟩
theorem slices_Clone_80_ok : CtrOK Try.prog 80 slices_Clone_80_c :=
  fun_at (fz := slices_Clone_80_fz) slices_Clone_80_fsok slices_Clone_80_isok Try.func80 (by kernel_rfl) (c := slices_Clone_80_code) (by kernel_rfl) slices_Clone_80_lsok0 (by kernel_rfl) (fun x => by kernel_rfl)
/-! ### easement/row.Clone: function 44 -/
noncomputable def row_Clone_code : Code := Try.f44.body.getD .skip
noncomputable def row_Clone_fs : List (Nat × Ctr) := [(80, slices_Clone_80_c)]
noncomputable def row_Clone_is : List (Nat × List PI) := []
theorem row_Clone_fsok : FsOK Try.prog row_Clone_fs := ⟨slices_Clone_80_ok, trivial⟩
theorem row_Clone_isok : IsOK Try.prog row_Clone_is := trivial
def row_Clone_fz : List (Nat × List Nat) := []
noncomputable def row_Clone_ls0 : List (Nat × LCtr) := []
theorem row_Clone_lsok0 : LsOK Try.prog Try.f44.ntmps row_Clone_code row_Clone_ls0 := trivial
noncomputable def row_Clone (x : (V_api_Type × Unit)) : Option (V_api_Type × Unit) :=
  Option.bind (slices_Clone_80 (x.1.1, ())) fun y1 =>
  some ((y1.1, ()), ())
noncomputable def row_Clone_c : Ctr := ⟨(.cons t_api_Type .nil), (.cons t_api_Type .nil), row_Clone, none⟩
theorem row_Clone_ok : CtrOK Try.prog 44 row_Clone_c :=
  fun_at (fz := row_Clone_fz) row_Clone_fsok row_Clone_isok Try.func44 (by kernel_rfl) (c := row_Clone_code) (by kernel_rfl) row_Clone_lsok0 (by kernel_rfl) (fun x => by kernel_rfl)
/-! ### easement/row.Regions: function 75 -/
noncomputable def row_Regions_code : Code := Try.f75.body.getD .skip
noncomputable def row_Regions_fs : List (Nat × Ctr) := []
noncomputable def row_Regions_is : List (Nat × List PI) := [(101, [slices_Sort_c]), (102, [slices_Compact_c])]
theorem row_Regions_fsok : FsOK Try.prog row_Regions_fs := trivial
theorem row_Regions_isok : IsOK Try.prog row_Regions_is := ⟨⟨slices_Sort_ok, trivial⟩, ⟨slices_Compact_ok, trivial⟩, trivial⟩
def row_Regions_fz : List (Nat × List Nat) := []
noncomputable def row_Regions_ls0 : List (Nat × LCtr) := []
theorem row_Regions_lsok0 : LsOK Try.prog Try.f75.ntmps row_Regions_code row_Regions_ls0 := trivial
noncomputable def row_Regions_l6_step (g : ((List Int) × (List V_api_Slot) × Int × Int × Unit) → Option (((List Int) × Unit) ⊕ Empty)) (x : ((List Int) × (List V_api_Slot) × Int × Int × Unit)) : Option (((List Int) × Unit) ⊕ Empty) :=
  cond (decide (x.2.2.2.1 < x.2.2.1))
    (ck (inB x.2.2.2.1 (x.2.1.length)) <|
    let v1 := x.1 ++ [(rdL t_api_Slot x.2.1 x.2.2.2.1).1]
    ck (roomB v1.length 10) <|
    g (v1, x.2.1, x.2.2.1, IntKind.i64.wrap (x.2.2.2.1 + (1 : Int)), ()))
    (some (.inl (x.1, ())))
noncomputable def row_Regions_l6 : LCtr := ⟨[3, 7, 8, 9], (.cons (.own (.int .i64)) (.cons (.val (.lst t_api_Slot)) (.cons (.val (.int .i64)) (.cons (.val (.int .i64)) .nil)))), [none], [], [⟨(.exit 0), [3], (.cons (.own (.int .i64)) .nil), [none]⟩], [], lim row_Regions_l6_step⟩
noncomputable def row_Regions_ls1 : List (Nat × LCtr) := (6, row_Regions_l6) :: row_Regions_ls0
theorem row_Regions_lsok1 : LsOK Try.prog Try.f75.ntmps row_Regions_code row_Regions_ls1 :=
  loop_at (L := row_Regions_l6) (fz := row_Regions_fz) row_Regions_fsok row_Regions_isok row_Regions_lsok0 (by kernel_rfl) (by kernel_rfl) (by kernel_rfl) (step := row_Regions_l6_step) rfl (fun g x => by kernel_rfl)
noncomputable def row_Regions (x : (V_api_Type × Unit)) : Option ((List Int) × Unit) :=
  Option.bind (lim row_Regions_l6_step (([] : List Int), x.1.1, (x.1.1.length : Int), (0 : Int), ())) fun y1 => out1 y1
    (fun z2 =>
      Option.bind (slices_Sort (z2.1, ())) fun y3 => out1 y3
        (fun z4 =>
          Option.bind (slices_Compact (z4.1, ())) fun y5 => out1 y5
            (fun z6 =>
              some (z6.1, ()))))
noncomputable def row_Regions_c : Ctr := ⟨(.cons t_api_Type .nil), (.cons (.lst (.int .i64)) .nil), row_Regions, none⟩
theorem row_Regions_ok : CtrOK Try.prog 75 row_Regions_c :=
  fun_at (fz := row_Regions_fz) row_Regions_fsok row_Regions_isok Try.func75 (by kernel_rfl) (c := row_Regions_code) (by kernel_rfl) row_Regions_lsok1 (by kernel_rfl) (fun x => by kernel_rfl)
/-! ### easement/easementref15.Regions: function 76 -/
noncomputable def ref15_Regions_code : Code := Try.f76.body.getD .skip
noncomputable def ref15_Regions_fs : List (Nat × Ctr) := []
noncomputable def ref15_Regions_is : List (Nat × List PI) := []
theorem ref15_Regions_fsok : FsOK Try.prog ref15_Regions_fs := trivial
theorem ref15_Regions_isok : IsOK Try.prog ref15_Regions_is := trivial
def ref15_Regions_fz : List (Nat × List Nat) := []
noncomputable def ref15_Regions_ls0 : List (Nat × LCtr) := []
theorem ref15_Regions_lsok0 : LsOK Try.prog Try.f76.ntmps ref15_Regions_code ref15_Regions_ls0 := trivial
noncomputable def ref15_Regions_j107_v (x : (Int × Int × Bool × Unit)) : Option ((Int × Unit) ⊕ Empty) :=
  cond (x.2.2.1)
    (some (.inl (x.2.1, ())))
    (some (.inl (x.1, ())))
noncomputable def ref15_Regions_j107 : LCtr := ⟨[4, 5, 53], (.cons (.val (.int .i64)) (.cons (.val (.int .i64)) (.cons (.val .bool) .nil))), [], [1, 3, 5], [⟨.normal, [4], (.cons (.val (.int .i64)) .nil), []⟩], [], ref15_Regions_j107_v⟩
noncomputable def ref15_Regions_ls1 : List (Nat × LCtr) := (1179755, ref15_Regions_j107) :: ref15_Regions_ls0
theorem ref15_Regions_lsok1 : LsOK Try.prog Try.f76.ntmps ref15_Regions_code ref15_Regions_ls1 :=
  join_at (L := ref15_Regions_j107) (fz := ref15_Regions_fz) ref15_Regions_fsok ref15_Regions_isok ref15_Regions_lsok0 (by kernel_rfl) (by kernel_rfl) (fun x => by kernel_rfl)
noncomputable def ref15_Regions_l10_step (g : (((List V_api_Slot) × Unit) × (List Int) × Int × Int × Unit) → Option ((Int × ((List V_api_Slot) × Unit) × (List Int) × Unit) ⊕ Empty)) (x : (((List V_api_Slot) × Unit) × (List Int) × Int × Int × Unit)) : Option ((Int × ((List V_api_Slot) × Unit) × (List Int) × Unit) ⊕ Empty) :=
  cond (decide (x.2.2.2.1 < (x.1.1.length : Int)))
    (ck (inB x.2.2.2.1 (x.1.1.length)) <|
    let v1 := IntKind.i64.wrap ((x.2.1.length : Int) - (1 : Int))
    let v2 := (x.2.1.length : Int) == (0 : Int)
    ck ((inB v1 (x.2.1.length)) || !(!v2)) <|
    let v3 := decide (x.2.2.1 < (0 : Int))
    let v4 := (rdL t_api_Slot x.1.1 x.2.2.2.1).1
    let v5 := cond v2 true (decide (v4 > (x.2.1.getD v1.toNat (Ty.dflt (.int .i64)))))
    ck ((inB x.2.2.1 (x.1.1.length)) || !((!v3) && v5)) <|
    Option.bind (ref15_Regions_j107_v (x.2.2.1, x.2.2.2.1, cond v5 (cond v3 true (decide (v4 < (rdL t_api_Slot x.1.1 x.2.2.1).1))) false, ())) fun y1 => out1 y1
      (fun z2 =>
        g ((x.1.1, ()), x.2.1, z2.1, IntKind.i64.wrap (x.2.2.2.1 + (1 : Int)), ())))
    (some (.inl (x.2.2.1, (x.1.1, ()), x.2.1, ())))
noncomputable def ref15_Regions_l10 : LCtr := ⟨[1, 3, 4, 5], (.cons (.ptr (.cons (.val (.lst t_api_Slot)) .nil)) (.cons (.own (.int .i64)) (.cons (.val (.int .i64)) (.cons (.val (.int .i64)) .nil)))), [some 0, some 1], [1, 3], [⟨(.exit 2), [4, 1, 3], (.cons (.val (.int .i64)) (.cons (.ptr (.cons (.val (.lst t_api_Slot)) .nil)) (.cons (.own (.int .i64)) .nil))), [some 0, some 1]⟩], [], lim ref15_Regions_l10_step⟩
noncomputable def ref15_Regions_ls2 : List (Nat × LCtr) := (10, ref15_Regions_l10) :: ref15_Regions_ls1
theorem ref15_Regions_lsok2 : LsOK Try.prog Try.f76.ntmps ref15_Regions_code ref15_Regions_ls2 :=
  loop_at (L := ref15_Regions_l10) (fz := ref15_Regions_fz) ref15_Regions_fsok ref15_Regions_isok ref15_Regions_lsok1 (by kernel_rfl) (by kernel_rfl) (by kernel_rfl) (step := ref15_Regions_l10_step) rfl (fun g x => by kernel_rfl)
noncomputable def ref15_Regions_l4_step (g : (((List V_api_Slot) × Unit) × (List Int) × Unit) → Option (((List Int) × ((List V_api_Slot) × Unit) × Unit) ⊕ (((List Int) × ((List V_api_Slot) × Unit) × Unit) ⊕ Empty))) (x : (((List V_api_Slot) × Unit) × (List Int) × Unit)) : Option (((List Int) × ((List V_api_Slot) × Unit) × Unit) ⊕ (((List Int) × ((List V_api_Slot) × Unit) × Unit) ⊕ Empty)) :=
  cond (decide ((x.2.1.length : Int) < (x.1.1.length : Int)))
    (Option.bind (lim ref15_Regions_l10_step ((x.1.1, ()), x.2.1, (-1 : Int), (0 : Int), ())) fun y3 => out1 y3
      (fun z4 =>
        cond (decide (z4.1 < (0 : Int)))
          (some (.inl (z4.2.2.1, (z4.2.1.1, ()), ())))
          (ck (inB z4.1 (z4.2.1.1.length)) <|
          let v1 := z4.2.2.1 ++ [(rdL t_api_Slot z4.2.1.1 z4.1).1]
          ck (roomB v1.length 10) <|
          g ((z4.2.1.1, ()), v1, ()))))
    (some (.inr (.inl (x.2.1, (x.1.1, ()), ()))))
noncomputable def ref15_Regions_l4 : LCtr := ⟨[1, 3], (.cons (.ptr (.cons (.val (.lst t_api_Slot)) .nil)) (.cons (.own (.int .i64)) .nil)), [some 0, none], [], [⟨.ret, [2, 1], (.cons (.own (.int .i64)) (.cons (.ptr (.cons (.val (.lst t_api_Slot)) .nil)) .nil)), [none, some 0]⟩, ⟨(.exit 0), [3, 1], (.cons (.own (.int .i64)) (.cons (.ptr (.cons (.val (.lst t_api_Slot)) .nil)) .nil)), [none, some 0]⟩], [], lim ref15_Regions_l4_step⟩
noncomputable def ref15_Regions_ls3 : List (Nat × LCtr) := (4, ref15_Regions_l4) :: ref15_Regions_ls2
theorem ref15_Regions_lsok3 : LsOK Try.prog Try.f76.ntmps ref15_Regions_code ref15_Regions_ls3 :=
  loop_at (L := ref15_Regions_l4) (fz := ref15_Regions_fz) ref15_Regions_fsok ref15_Regions_isok ref15_Regions_lsok2 (by kernel_rfl) (by kernel_rfl) (by kernel_rfl) (step := ref15_Regions_l4_step) rfl (fun g x => by kernel_rfl)
noncomputable def ref15_Regions (x : (V_api_Type × Unit)) : Option ((List Int) × Unit) :=
  Option.bind (lim ref15_Regions_l4_step ((x.1.1, ()), ([] : List Int), ())) fun y5 => out2 y5
    (fun z6 =>
      some (z6.1, ()))
    (fun z7 =>
      some (z7.1, ()))
noncomputable def ref15_Regions_c : Ctr := ⟨(.cons t_api_Type .nil), (.cons (.lst (.int .i64)) .nil), ref15_Regions, none⟩
theorem ref15_Regions_ok : CtrOK Try.prog 76 ref15_Regions_c :=
  fun_at (fz := ref15_Regions_fz) ref15_Regions_fsok ref15_Regions_isok Try.func76 (by kernel_rfl) (c := ref15_Regions_code) (by kernel_rfl) ref15_Regions_lsok3 (by kernel_rfl) (fun x => by kernel_rfl)
/-! ### easement/easementref01.Same: function 50 -/
noncomputable def ref01_Same_code : Code := Try.f50.body.getD .skip
noncomputable def ref01_Same_fs : List (Nat × Ctr) := []
noncomputable def ref01_Same_is : List (Nat × List PI) := []
theorem ref01_Same_fsok : FsOK Try.prog ref01_Same_fs := trivial
theorem ref01_Same_isok : IsOK Try.prog ref01_Same_is := trivial
def ref01_Same_fz : List (Nat × List Nat) := []
noncomputable def ref01_Same_ls0 : List (Nat × LCtr) := []
theorem ref01_Same_lsok0 : LsOK Try.prog Try.f50.ntmps ref01_Same_code ref01_Same_ls0 := trivial
noncomputable def ref01_Same_l8_step (g : ((List Int) × (List Int) × Int × Unit) → Option ((Bool × Unit) ⊕ (Unit ⊕ Empty))) (x : ((List Int) × (List Int) × Int × Unit)) : Option ((Bool × Unit) ⊕ (Unit ⊕ Empty)) :=
  cond (decide (x.2.2.1 < (x.1.length : Int)))
    (ck (inB x.2.2.1 (x.1.length)) <|
    ck (inB x.2.2.1 (x.2.1.length)) <|
    cond ((rdL (.int .i64) x.1 x.2.2.1) != (rdL (.int .i64) x.2.1 x.2.2.1))
      (some (.inl (false, ())))
      (g (x.1, x.2.1, IntKind.i64.wrap (x.2.2.1 + (1 : Int)), ())))
    (some (.inr (.inl ())))
noncomputable def ref01_Same_l8 : LCtr := ⟨[0, 1, 5], (.cons (.val (.lst (.int .i64))) (.cons (.val (.lst (.int .i64))) (.cons (.val (.int .i64)) .nil))), [], [], [⟨.ret, [4], (.cons (.val .bool) .nil), []⟩, ⟨(.exit 0), [], .nil, []⟩], [], lim ref01_Same_l8_step⟩
noncomputable def ref01_Same_ls1 : List (Nat × LCtr) := (8, ref01_Same_l8) :: ref01_Same_ls0
theorem ref01_Same_lsok1 : LsOK Try.prog Try.f50.ntmps ref01_Same_code ref01_Same_ls1 :=
  loop_at (L := ref01_Same_l8) (fz := ref01_Same_fz) ref01_Same_fsok ref01_Same_isok ref01_Same_lsok0 (by kernel_rfl) (by kernel_rfl) (by kernel_rfl) (step := ref01_Same_l8_step) rfl (fun g x => by kernel_rfl)
noncomputable def ref01_Same (x : ((List Int) × (List Int) × Unit)) : Option (Bool × Unit) :=
  cond ((x.1.length : Int) != (x.2.1.length : Int))
    (some (false, ()))
    (Option.bind (lim ref01_Same_l8_step (x.1, x.2.1, (0 : Int), ())) fun y1 => out2 y1
      (fun z2 =>
        some (z2.1, ()))
      (fun z3 =>
        some (true, ())))
noncomputable def ref01_Same_c : Ctr := ⟨(.cons (.lst (.int .i64)) (.cons (.lst (.int .i64)) .nil)), (.cons .bool .nil), ref01_Same, none⟩
theorem ref01_Same_ok : CtrOK Try.prog 50 ref01_Same_c :=
  fun_at (fz := ref01_Same_fz) ref01_Same_fsok ref01_Same_isok Try.func50 (by kernel_rfl) (c := ref01_Same_code) (by kernel_rfl) ref01_Same_lsok1 (by kernel_rfl) (fun x => by kernel_rfl)
/-! ### easement/easementref15.Has: function 78 -/
noncomputable def ref15_Has_code : Code := Try.f78.body.getD .skip
noncomputable def ref15_Has_fs : List (Nat × Ctr) := []
noncomputable def ref15_Has_is : List (Nat × List PI) := []
theorem ref15_Has_fsok : FsOK Try.prog ref15_Has_fs := trivial
theorem ref15_Has_isok : IsOK Try.prog ref15_Has_is := trivial
def ref15_Has_fz : List (Nat × List Nat) := []
noncomputable def ref15_Has_ls0 : List (Nat × LCtr) := []
theorem ref15_Has_lsok0 : LsOK Try.prog Try.f78.ntmps ref15_Has_code ref15_Has_ls0 := trivial
noncomputable def ref15_Has_l4_step (g : (((List V_api_Slot) × Unit) × Int × Int × Unit) → Option ((Bool × ((List V_api_Slot) × Unit) × Unit) ⊕ ((((List V_api_Slot) × Unit) × Unit) ⊕ Empty))) (x : (((List V_api_Slot) × Unit) × Int × Int × Unit)) : Option ((Bool × ((List V_api_Slot) × Unit) × Unit) ⊕ ((((List V_api_Slot) × Unit) × Unit) ⊕ Empty)) :=
  cond (decide (x.2.2.1 < (x.1.1.length : Int)))
    (ck (inB x.2.2.1 (x.1.1.length)) <|
    cond ((rdL t_api_Slot x.1.1 x.2.2.1).1 == x.2.1)
      (some (.inl (true, (x.1.1, ()), ())))
      (g ((x.1.1, ()), x.2.1, IntKind.i64.wrap (x.2.2.1 + (1 : Int)), ())))
    (some (.inr (.inl ((x.1.1, ()), ()))))
noncomputable def ref15_Has_l4 : LCtr := ⟨[2, 1, 5], (.cons (.ptr (.cons (.val (.lst t_api_Slot)) .nil)) (.cons (.val (.int .i64)) (.cons (.val (.int .i64)) .nil))), [some 0], [], [⟨.ret, [4, 2], (.cons (.val .bool) (.cons (.ptr (.cons (.val (.lst t_api_Slot)) .nil)) .nil)), [some 0]⟩, ⟨(.exit 0), [2], (.cons (.ptr (.cons (.val (.lst t_api_Slot)) .nil)) .nil), [some 0]⟩], [], lim ref15_Has_l4_step⟩
noncomputable def ref15_Has_ls1 : List (Nat × LCtr) := (4, ref15_Has_l4) :: ref15_Has_ls0
theorem ref15_Has_lsok1 : LsOK Try.prog Try.f78.ntmps ref15_Has_code ref15_Has_ls1 :=
  loop_at (L := ref15_Has_l4) (fz := ref15_Has_fz) ref15_Has_fsok ref15_Has_isok ref15_Has_lsok0 (by kernel_rfl) (by kernel_rfl) (by kernel_rfl) (step := ref15_Has_l4_step) rfl (fun g x => by kernel_rfl)
noncomputable def ref15_Has (x : (V_api_Type × Int × Unit)) : Option (Bool × Unit) :=
  Option.bind (lim ref15_Has_l4_step ((x.1.1, ()), x.2.1, (0 : Int), ())) fun y1 => out2 y1
    (fun z2 =>
      some (z2.1, ()))
    (fun z3 =>
      some (false, ()))
noncomputable def ref15_Has_c : Ctr := ⟨(.cons t_api_Type (.cons (.int .i64) .nil)), (.cons .bool .nil), ref15_Has, none⟩
theorem ref15_Has_ok : CtrOK Try.prog 78 ref15_Has_c :=
  fun_at (fz := ref15_Has_fz) ref15_Has_fsok ref15_Has_isok Try.func78 (by kernel_rfl) (c := ref15_Has_code) (by kernel_rfl) ref15_Has_lsok1 (by kernel_rfl) (fun x => by kernel_rfl)
/-! ### easement/easementlaw15.RowTells: function 14 -/
noncomputable def law15_RowTells_code : Code := Try.f14.body.getD .skip
noncomputable def law15_RowTells_fs : List (Nat × Ctr) := [(21, ref15_Few_c), (22, law15_awake_c), (42, row_Check_c), (41, ref15_Check_c), (43, row_Shape_c), (74, ref15_Shape_c), (45, row_Same_c), (27, ref15_Same_c), (44, row_Clone_c), (75, row_Regions_c), (76, ref15_Regions_c), (50, ref01_Same_c), (77, row_Has_c), (78, ref15_Has_c)]
noncomputable def law15_RowTells_is : List (Nat × List PI) := []
theorem law15_RowTells_fsok : FsOK Try.prog law15_RowTells_fs := ⟨ref15_Few_ok, law15_awake_ok, row_Check_ok, ref15_Check_ok, row_Shape_ok, ref15_Shape_ok, row_Same_ok, ref15_Same_ok, row_Clone_ok, row_Regions_ok, ref15_Regions_ok, ref01_Same_ok, row_Has_ok, ref15_Has_ok, trivial⟩
theorem law15_RowTells_isok : IsOK Try.prog law15_RowTells_is := trivial
def law15_RowTells_fz : List (Nat × List Nat) := []
noncomputable def law15_RowTells_ls0 : List (Nat × LCtr) := []
theorem law15_RowTells_lsok0 : LsOK Try.prog Try.f14.ntmps law15_RowTells_code law15_RowTells_ls0 := trivial
noncomputable def law15_RowTells (x : (V_api_Type × V_api_Type × Int × Int × Unit)) : Option (Bool × Unit) :=
  Option.bind (ref15_Few ((x.1.1, ()), (30 : Int), ())) fun y1 =>
  cond (!(!y1.1))
    (Option.bind (ref15_Few ((x.2.1.1, ()), (30 : Int), ())) fun y2 =>
    cond (!y2.1)
      (Option.bind (law15_awake ()) fun y3 =>
      some (y3.1, ()))
      (Option.bind (row_Check ((x.1.1, ()), x.2.2.1, ())) fun y4 =>
      Option.bind (ref15_Check ((x.1.1, ()), x.2.2.1, ())) fun y5 =>
      cond (y4.1 == y5.1)
        (Option.bind (row_Shape ((x.1.1, ()), (x.2.1.1, ()), ())) fun y6 =>
        Option.bind (ref15_Shape ((x.1.1, ()), (x.2.1.1, ()), ())) fun y7 =>
        cond (y6.1 == y7.1)
          (Option.bind (row_Same ((x.1.1, ()), (x.2.1.1, ()), ())) fun y8 =>
          Option.bind (ref15_Same ((x.1.1, ()), (x.2.1.1, ()), ())) fun y9 =>
          cond (y8.1 == y9.1)
            (Option.bind (row_Clone ((x.1.1, ()), ())) fun y10 =>
            Option.bind (ref15_Same (y10.1, (x.1.1, ()), ())) fun y11 =>
            cond (y11.1)
              (Option.bind (row_Regions ((x.1.1, ()), ())) fun y12 =>
              Option.bind (ref15_Regions ((x.1.1, ()), ())) fun y13 =>
              Option.bind (ref01_Same (y12.1, y13.1, ())) fun y14 =>
              cond (y14.1)
                (Option.bind (row_Has ((x.1.1, ()), x.2.2.2.1, ())) fun y15 =>
                Option.bind (ref15_Has ((x.1.1, ()), x.2.2.2.1, ())) fun y16 =>
                cond (y15.1 == y16.1)
                  (Option.bind (law15_awake ()) fun y17 =>
                  some (y17.1, ()))
                  (some (false, ())))
                (some (false, ())))
              (some (false, ())))
            (some (false, ())))
          (some (false, ())))
        (some (false, ()))))
    (Option.bind (law15_awake ()) fun y18 =>
    some (y18.1, ()))
noncomputable def law15_RowTells_c : Ctr := ⟨(.cons t_api_Type (.cons t_api_Type (.cons (.int .i64) (.cons (.int .i64) .nil)))), (.cons .bool .nil), law15_RowTells, none⟩
theorem law15_RowTells_ok : CtrOK Try.prog 14 law15_RowTells_c :=
  fun_at (fz := law15_RowTells_fz) law15_RowTells_fsok law15_RowTells_isok Try.func14 (by kernel_rfl) (c := law15_RowTells_code) (by kernel_rfl) law15_RowTells_lsok0 (by kernel_rfl) (fun x => by kernel_rfl)
/-! ### slices.Clone[[]easement/api.Slot,easement/api.Slot]: function 80, at objects -/
noncomputable def slices_Clone_80_p0_code : Code := Try.f80.body.getD .skip
noncomputable def slices_Clone_80_p0_fs : List (Nat × Ctr) := []
noncomputable def slices_Clone_80_p0_is : List (Nat × List PI) := []
theorem slices_Clone_80_p0_fsok : FsOK Try.prog slices_Clone_80_p0_fs := trivial
theorem slices_Clone_80_p0_isok : IsOK Try.prog slices_Clone_80_p0_is := trivial
def slices_Clone_80_p0_fz : List (Nat × List Nat) := []
noncomputable def slices_Clone_80_p0_ls0 : List (Nat × LCtr) := []
theorem slices_Clone_80_p0_lsok0 : LsOK Try.prog Try.f80.ntmps slices_Clone_80_p0_code slices_Clone_80_p0_ls0 := trivial
noncomputable def slices_Clone_80_p0 (x : ((List V_api_Slot) × Unit)) : Option (((List V_api_Slot) × Unit) ⊕ Empty) :=
  cond (x.1.isEmpty) (agree
    (some (.inl (([] : List V_api_Slot), ())))
    (let v1 := ([] : List V_api_Slot) ++ x.1
    ck (roomB v1.length 19) <|
    some (.inl (v1, ()))))
    (let v1 := ([] : List V_api_Slot) ++ x.1
    ck (roomB v1.length 19) <|
    some (.inl (v1, ())))
noncomputable def slices_Clone_80_p0_L : LCtr := ⟨[0], (.cons (.val (.lst t_api_Slot)) .nil), [], [], [⟨.ret, [2], (.cons (.own t_api_Slot) .nil), [none]⟩], [], slices_Clone_80_p0⟩
noncomputable def slices_Clone_80_p0_c : PI := ⟨Try.f80.ntmps, slices_Clone_80_p0_code, Try.f80.results.toList, slices_Clone_80_p0_L⟩
theorem slices_Clone_80_p0_ok : PIOK Try.prog 80 slices_Clone_80_p0_c :=
  proc_at (L := slices_Clone_80_p0_L) (fz := slices_Clone_80_p0_fz) slices_Clone_80_p0_fsok slices_Clone_80_p0_isok Try.func80 (by kernel_rfl) (by kernel_rfl) slices_Clone_80_p0_lsok0 (by kernel_rfl) (fun x => by kernel_rfl)
/-! ### easement/row.Clone: function 44, at objects -/
noncomputable def row_Clone_p0_code : Code := Try.f44.body.getD .skip
noncomputable def row_Clone_p0_fs : List (Nat × Ctr) := []
noncomputable def row_Clone_p0_is : List (Nat × List PI) := [(80, [slices_Clone_80_p0_c])]
theorem row_Clone_p0_fsok : FsOK Try.prog row_Clone_p0_fs := trivial
theorem row_Clone_p0_isok : IsOK Try.prog row_Clone_p0_is := ⟨⟨slices_Clone_80_p0_ok, trivial⟩, trivial⟩
def row_Clone_p0_fz : List (Nat × List Nat) := []
noncomputable def row_Clone_p0_ls0 : List (Nat × LCtr) := []
theorem row_Clone_p0_lsok0 : LsOK Try.prog Try.f44.ntmps row_Clone_p0_code row_Clone_p0_ls0 := trivial
noncomputable def row_Clone_p0 (x : (V_api_Type × Unit)) : Option ((((List V_api_Slot) × Unit) × Unit) ⊕ Empty) :=
  Option.bind (slices_Clone_80_p0 (x.1.1, ())) fun y1 => out1 y1
    (fun z2 =>
      some (.inl ((z2.1, ()), ())))
noncomputable def row_Clone_p0_L : LCtr := ⟨[0], (.cons (.val t_api_Type) .nil), [], [], [⟨.ret, [2], (.cons (.ptr (.cons (.own t_api_Slot) .nil)) .nil), [none, none]⟩], [], row_Clone_p0⟩
noncomputable def row_Clone_p0_c : PI := ⟨Try.f44.ntmps, row_Clone_p0_code, Try.f44.results.toList, row_Clone_p0_L⟩
theorem row_Clone_p0_ok : PIOK Try.prog 44 row_Clone_p0_c :=
  proc_at (L := row_Clone_p0_L) (fz := row_Clone_p0_fz) row_Clone_p0_fsok row_Clone_p0_isok Try.func44 (by kernel_rfl) (by kernel_rfl) row_Clone_p0_lsok0 (by kernel_rfl) (fun x => by kernel_rfl)
/-! ### easement/row.Subst: function 23 -/
noncomputable def row_Subst_code : Code := Try.f23.body.getD .skip
noncomputable def row_Subst_fs : List (Nat × Ctr) := []
noncomputable def row_Subst_is : List (Nat × List PI) := [(44, [row_Clone_p0_c])]
theorem row_Subst_fsok : FsOK Try.prog row_Subst_fs := trivial
theorem row_Subst_isok : IsOK Try.prog row_Subst_is := ⟨⟨row_Clone_p0_ok, trivial⟩, trivial⟩
def row_Subst_fz : List (Nat × List Nat) := []
noncomputable def row_Subst_ls0 : List (Nat × LCtr) := []
theorem row_Subst_lsok0 : LsOK Try.prog Try.f23.ntmps row_Subst_code row_Subst_ls0 := trivial
noncomputable def row_Subst_l6_step (g : (((List V_api_Slot) × Unit) × ((List V_api_Slot) × Unit) × (List Int) × Int × Int × Unit) → Option ((Int × (Unit × Unit) × ((List V_api_Slot) × Unit) × Unit) ⊕ ((((List V_api_Slot) × Unit) × ((List V_api_Slot) × Unit) × Unit) ⊕ Empty))) (x : (((List V_api_Slot) × Unit) × ((List V_api_Slot) × Unit) × (List Int) × Int × Int × Unit)) : Option ((Int × (Unit × Unit) × ((List V_api_Slot) × Unit) × Unit) ⊕ ((((List V_api_Slot) × Unit) × ((List V_api_Slot) × Unit) × Unit) ⊕ Empty)) :=
  cond (decide (x.2.2.2.2.1 < x.2.2.2.1))
    (ck (inB x.2.2.2.2.1 (x.2.1.1.length)) <|
    let v1 := (x.2.1.1.getD x.2.2.2.2.1.toNat (Ty.dflt t_api_Slot)).1
    cond (cond (decide (v1 < (0 : Int))) true (decide (v1 ≥ (x.2.2.1.length : Int))))
      (some (.inl ((7 : Int), ((), ()), (x.2.1.1, ()), ())))
      (ck (inB v1 (x.2.2.1.length)) <|
      ck (inB x.2.2.2.2.1 (x.2.1.1.length)) <|
      g ((x.1.1, ()), (x.2.1.1.set x.2.2.2.2.1.toNat (rdL (.int .i64) x.2.2.1 v1, (x.2.1.1.getD x.2.2.2.2.1.toNat (Ty.dflt t_api_Slot)).2), ()), x.2.2.1, x.2.2.2.1, IntKind.i64.wrap (x.2.2.2.2.1 + (1 : Int)), ())))
    (some (.inr (.inl ((x.1.1, ()), (x.2.1.1, ()), ()))))
noncomputable def row_Subst_l6 : LCtr := ⟨[4, 6, 1, 13, 14], (.cons (.ptr (.cons (.own t_api_Slot) .nil)) (.cons (.ptr (.cons (.own t_api_Slot) .nil)) (.cons (.val (.lst (.int .i64))) (.cons (.val (.int .i64)) (.cons (.val (.int .i64)) .nil))))), [some 0, some 1, some 2, some 3], [4, 6], [⟨.ret, [5, 4, 6], (.cons (.val (.int .i64)) (.cons (.ptr (.cons (.cst false) .nil)) (.cons (.ptr (.cons (.own t_api_Slot) .nil)) .nil))), [some 0, some 2, some 3]⟩, ⟨(.exit 0), [4, 6], (.cons (.ptr (.cons (.own t_api_Slot) .nil)) (.cons (.ptr (.cons (.own t_api_Slot) .nil)) .nil)), [some 0, some 1, some 2, some 3]⟩], [(12, .sf 3)], lim row_Subst_l6_step⟩
noncomputable def row_Subst_ls1 : List (Nat × LCtr) := (6, row_Subst_l6) :: row_Subst_ls0
theorem row_Subst_lsok1 : LsOK Try.prog Try.f23.ntmps row_Subst_code row_Subst_ls1 :=
  loop_at (L := row_Subst_l6) (fz := row_Subst_fz) row_Subst_fsok row_Subst_isok row_Subst_lsok0 (by kernel_rfl) (by kernel_rfl) (by kernel_rfl) (step := row_Subst_l6_step) rfl (fun g x => by kernel_rfl)
noncomputable def row_Subst (x : (V_api_Type × (List Int) × Unit)) : Option (V_api_Type × Int × Unit) :=
  Option.bind (row_Clone_p0 ((x.1.1, ()), ())) fun y1 => out1 y1
    (fun z2 =>
      Option.bind (lim row_Subst_l6_step ((([] : List V_api_Slot), ()), (z2.1.1, ()), x.2.1, (z2.1.1.length : Int), (0 : Int), ())) fun y3 => out2 y3
        (fun z4 =>
          some ((([] : List V_api_Slot), ()), z4.1, ()))
        (fun z5 =>
          some ((z5.2.1.1, ()), (0 : Int), ())))
noncomputable def row_Subst_c : Ctr := ⟨(.cons t_api_Type (.cons (.lst (.int .i64)) .nil)), (.cons t_api_Type (.cons (.int .i64) .nil)), row_Subst, none⟩
theorem row_Subst_ok : CtrOK Try.prog 23 row_Subst_c :=
  fun_at (fz := row_Subst_fz) row_Subst_fsok row_Subst_isok Try.func23 (by kernel_rfl) (c := row_Subst_code) (by kernel_rfl) row_Subst_lsok1 (by kernel_rfl) (fun x => by kernel_rfl)
/-! ### easement/easementref15.Subst: function 24 -/
noncomputable def ref15_Subst_code : Code := Try.f24.body.getD .skip
noncomputable def ref15_Subst_fs : List (Nat × Ctr) := []
noncomputable def ref15_Subst_is : List (Nat × List PI) := []
theorem ref15_Subst_fsok : FsOK Try.prog ref15_Subst_fs := trivial
theorem ref15_Subst_isok : IsOK Try.prog ref15_Subst_is := trivial
def ref15_Subst_fz : List (Nat × List Nat) := []
noncomputable def ref15_Subst_ls0 : List (Nat × LCtr) := []
theorem ref15_Subst_lsok0 : LsOK Try.prog Try.f24.ntmps ref15_Subst_code ref15_Subst_ls0 := trivial
noncomputable def ref15_Subst_l6_step (g : (((List V_api_Slot) × Unit) × ((List V_api_Slot) × Unit) × (List Int) × (List V_api_Slot) × Int × Unit) → Option ((Int × ((List V_api_Slot) × Unit) × (Unit × Unit) × (List V_api_Slot) × Unit) ⊕ (((List V_api_Slot) × ((List V_api_Slot) × Unit) × ((List V_api_Slot) × Unit) × Unit) ⊕ Empty))) (x : (((List V_api_Slot) × Unit) × ((List V_api_Slot) × Unit) × (List Int) × (List V_api_Slot) × Int × Unit)) : Option ((Int × ((List V_api_Slot) × Unit) × (Unit × Unit) × (List V_api_Slot) × Unit) ⊕ (((List V_api_Slot) × ((List V_api_Slot) × Unit) × ((List V_api_Slot) × Unit) × Unit) ⊕ Empty)) :=
  cond (decide (x.2.2.2.2.1 < (x.1.1.length : Int)))
    (ck (inB x.2.2.2.2.1 (x.1.1.length)) <|
    let v1 := (rdL t_api_Slot x.1.1 x.2.2.2.2.1).1
    cond (cond (decide (v1 < (0 : Int))) true (decide (v1 ≥ (x.2.2.1.length : Int))))
      (some (.inl ((7 : Int), (x.1.1, ()), ((), ()), x.2.2.2.1, ())))
      (ck (inB v1 (x.2.2.1.length)) <|
      ck (inB x.2.2.2.2.1 (x.1.1.length)) <|
      let v2 := x.2.2.2.1 ++ [(rdL (.int .i64) x.2.2.1 v1, (rdL t_api_Slot x.1.1 x.2.2.2.2.1).2.1, ())]
      ck (roomB v2.length 19) <|
      g ((x.1.1, ()), (x.2.1.1, ()), x.2.2.1, v2, IntKind.i64.wrap (x.2.2.2.2.1 + (1 : Int)), ())))
    (some (.inr (.inl (x.2.2.2.1, (x.1.1, ()), (x.2.1.1, ()), ()))))
noncomputable def ref15_Subst_l6 : LCtr := ⟨[2, 4, 1, 6, 7], (.cons (.ptr (.cons (.val (.lst t_api_Slot)) .nil)) (.cons (.ptr (.cons (.own t_api_Slot) .nil)) (.cons (.val (.lst (.int .i64))) (.cons (.own t_api_Slot) (.cons (.val (.int .i64)) .nil))))), [some 0, some 1, some 2, none], [4], [⟨.ret, [5, 2, 4, 6], (.cons (.val (.int .i64)) (.cons (.ptr (.cons (.val (.lst t_api_Slot)) .nil)) (.cons (.ptr (.cons (.cst false) .nil)) (.cons (.own t_api_Slot) .nil)))), [some 0, some 1, none]⟩, ⟨(.exit 0), [6, 2, 4], (.cons (.own t_api_Slot) (.cons (.ptr (.cons (.val (.lst t_api_Slot)) .nil)) (.cons (.ptr (.cons (.own t_api_Slot) .nil)) .nil))), [none, some 0, some 1, some 2]⟩], [], lim ref15_Subst_l6_step⟩
noncomputable def ref15_Subst_ls1 : List (Nat × LCtr) := (6, ref15_Subst_l6) :: ref15_Subst_ls0
theorem ref15_Subst_lsok1 : LsOK Try.prog Try.f24.ntmps ref15_Subst_code ref15_Subst_ls1 :=
  loop_at (L := ref15_Subst_l6) (fz := ref15_Subst_fz) ref15_Subst_fsok ref15_Subst_isok ref15_Subst_lsok0 (by kernel_rfl) (by kernel_rfl) (by kernel_rfl) (step := ref15_Subst_l6_step) rfl (fun g x => by kernel_rfl)
noncomputable def ref15_Subst (x : (V_api_Type × (List Int) × Unit)) : Option (V_api_Type × Int × Unit) :=
  Option.bind (lim ref15_Subst_l6_step ((x.1.1, ()), (([] : List V_api_Slot), ()), x.2.1, ([] : List V_api_Slot), (0 : Int), ())) fun y1 => out2 y1
    (fun z2 =>
      some ((([] : List V_api_Slot), ()), z2.1, ()))
    (fun z3 =>
      some ((z3.1, ()), (0 : Int), ()))
noncomputable def ref15_Subst_c : Ctr := ⟨(.cons t_api_Type (.cons (.lst (.int .i64)) .nil)), (.cons t_api_Type (.cons (.int .i64) .nil)), ref15_Subst, none⟩
theorem ref15_Subst_ok : CtrOK Try.prog 24 ref15_Subst_c :=
  fun_at (fz := ref15_Subst_fz) ref15_Subst_fsok ref15_Subst_isok Try.func24 (by kernel_rfl) (c := ref15_Subst_code) (by kernel_rfl) ref15_Subst_lsok1 (by kernel_rfl) (fun x => by kernel_rfl)
/-! ### easement/row.Deref: function 25 -/
noncomputable def row_Deref_code : Code := Try.f25.body.getD .skip
noncomputable def row_Deref_fs : List (Nat × Ctr) := [(80, slices_Clone_80_c)]
noncomputable def row_Deref_is : List (Nat × List PI) := []
theorem row_Deref_fsok : FsOK Try.prog row_Deref_fs := ⟨slices_Clone_80_ok, trivial⟩
theorem row_Deref_isok : IsOK Try.prog row_Deref_is := trivial
def row_Deref_fz : List (Nat × List Nat) := []
noncomputable def row_Deref_ls0 : List (Nat × LCtr) := []
theorem row_Deref_lsok0 : LsOK Try.prog Try.f25.ntmps row_Deref_code row_Deref_ls0 := trivial
noncomputable def row_Deref (x : (V_api_Type × Unit)) : Option (V_api_Type × Int × Bool × Unit) :=
  let v1 := (x.1.1.length : Int) == (0 : Int)
  ck ((inB (0 : Int) (x.1.1.length)) || !(!v1)) <|
  cond (cond v1 true (rdL t_api_Slot x.1.1 (0 : Int)).2.1)
    (some ((([] : List V_api_Slot), ()), (0 : Int), false, ()))
    (ck (decide (0 ≤ (1 : Int)) && decide ((1 : Int) ≤ x.1.1.length)) <|
    Option.bind (slices_Clone_80 (x.1.1.drop (1 : Int).toNat, ())) fun y1 =>
    ck (inB (0 : Int) (x.1.1.length)) <|
    some ((y1.1, ()), (rdL t_api_Slot x.1.1 (0 : Int)).1, true, ()))
noncomputable def row_Deref_c : Ctr := ⟨(.cons t_api_Type .nil), (.cons t_api_Type (.cons (.int .i64) (.cons .bool .nil))), row_Deref, none⟩
theorem row_Deref_ok : CtrOK Try.prog 25 row_Deref_c :=
  fun_at (fz := row_Deref_fz) row_Deref_fsok row_Deref_isok Try.func25 (by kernel_rfl) (c := row_Deref_code) (by kernel_rfl) row_Deref_lsok0 (by kernel_rfl) (fun x => by kernel_rfl)
/-! ### easement/easementref15.Deref: function 26 -/
noncomputable def ref15_Deref_code : Code := Try.f26.body.getD .skip
noncomputable def ref15_Deref_fs : List (Nat × Ctr) := []
noncomputable def ref15_Deref_is : List (Nat × List PI) := []
theorem ref15_Deref_fsok : FsOK Try.prog ref15_Deref_fs := trivial
theorem ref15_Deref_isok : IsOK Try.prog ref15_Deref_is := trivial
def ref15_Deref_fz : List (Nat × List Nat) := []
noncomputable def ref15_Deref_ls0 : List (Nat × LCtr) := []
theorem ref15_Deref_lsok0 : LsOK Try.prog Try.f26.ntmps ref15_Deref_code ref15_Deref_ls0 := trivial
noncomputable def ref15_Deref (x : (V_api_Type × Unit)) : Option (V_api_Type × Int × Bool × Unit) :=
  let v1 := (x.1.1.length : Int) == (0 : Int)
  ck ((inB (0 : Int) (x.1.1.length)) || !(!v1)) <|
  cond (cond v1 true (rdL t_api_Slot x.1.1 (0 : Int)).2.1)
    (some ((([] : List V_api_Slot), ()), (0 : Int), false, ()))
    (ck (decide (0 ≤ (1 : Int)) && decide ((1 : Int) ≤ x.1.1.length)) <|
    ck (inB (0 : Int) (x.1.1.length)) <|
    some ((x.1.1.drop (1 : Int).toNat, ()), (rdL t_api_Slot x.1.1 (0 : Int)).1, true, ()))
noncomputable def ref15_Deref_c : Ctr := ⟨(.cons t_api_Type .nil), (.cons t_api_Type (.cons (.int .i64) (.cons .bool .nil))), ref15_Deref, none⟩
theorem ref15_Deref_ok : CtrOK Try.prog 26 ref15_Deref_c :=
  fun_at (fz := ref15_Deref_fz) ref15_Deref_fsok ref15_Deref_isok Try.func26 (by kernel_rfl) (c := ref15_Deref_code) (by kernel_rfl) ref15_Deref_lsok0 (by kernel_rfl) (fun x => by kernel_rfl)
/-! ### easement/easementref15.Ref: function 29 -/
noncomputable def ref15_Ref_code : Code := Try.f29.body.getD .skip
noncomputable def ref15_Ref_fs : List (Nat × Ctr) := []
noncomputable def ref15_Ref_is : List (Nat × List PI) := []
theorem ref15_Ref_fsok : FsOK Try.prog ref15_Ref_fs := trivial
theorem ref15_Ref_isok : IsOK Try.prog ref15_Ref_is := trivial
def ref15_Ref_fz : List (Nat × List Nat) := []
noncomputable def ref15_Ref_ls0 : List (Nat × LCtr) := []
theorem ref15_Ref_lsok0 : LsOK Try.prog Try.f29.ntmps ref15_Ref_code ref15_Ref_ls0 := trivial
noncomputable def ref15_Ref_l6_step (g : (((List V_api_Slot) × Unit) × Bool × (List V_api_Slot) × Int × Unit) → Option (((List V_api_Slot) × ((List V_api_Slot) × Unit) × Unit) ⊕ Empty)) (x : (((List V_api_Slot) × Unit) × Bool × (List V_api_Slot) × Int × Unit)) : Option (((List V_api_Slot) × ((List V_api_Slot) × Unit) × Unit) ⊕ Empty) :=
  cond (decide (x.2.2.2.1 < (x.1.1.length : Int)))
    (ck (inB x.2.2.2.1 (x.1.1.length)) <|
    ck (inB x.2.2.2.1 (x.1.1.length)) <|
    let v1 := x.2.2.1 ++ [((rdL t_api_Slot x.1.1 x.2.2.2.1).1, cond (rdL t_api_Slot x.1.1 x.2.2.2.1).2.1 true x.2.1, ())]
    ck (roomB v1.length 19) <|
    g ((x.1.1, ()), x.2.1, v1, IntKind.i64.wrap (x.2.2.2.1 + (1 : Int)), ()))
    (some (.inl (x.2.2.1, (x.1.1, ()), ())))
noncomputable def ref15_Ref_l6 : LCtr := ⟨[3, 2, 7, 8], (.cons (.ptr (.cons (.val (.lst t_api_Slot)) .nil)) (.cons (.val .bool) (.cons (.own t_api_Slot) (.cons (.val (.int .i64)) .nil)))), [some 0, none], [6], [⟨(.exit 0), [7, 3], (.cons (.own t_api_Slot) (.cons (.ptr (.cons (.val (.lst t_api_Slot)) .nil)) .nil)), [none, some 0]⟩], [], lim ref15_Ref_l6_step⟩
noncomputable def ref15_Ref_ls1 : List (Nat × LCtr) := (6, ref15_Ref_l6) :: ref15_Ref_ls0
theorem ref15_Ref_lsok1 : LsOK Try.prog Try.f29.ntmps ref15_Ref_code ref15_Ref_ls1 :=
  loop_at (L := ref15_Ref_l6) (fz := ref15_Ref_fz) ref15_Ref_fsok ref15_Ref_isok ref15_Ref_lsok0 (by kernel_rfl) (by kernel_rfl) (by kernel_rfl) (step := ref15_Ref_l6_step) rfl (fun g x => by kernel_rfl)
noncomputable def ref15_Ref (x : (V_api_Type × Int × Bool × Unit)) : Option (V_api_Type × Unit) :=
  Option.bind (lim ref15_Ref_l6_step ((x.1.1, ()), x.2.2.1, [(x.2.1, false, ())], (0 : Int), ())) fun y1 => out1 y1
    (fun z2 =>
      some ((z2.1, ()), ()))
noncomputable def ref15_Ref_c : Ctr := ⟨(.cons t_api_Type (.cons (.int .i64) (.cons .bool .nil))), (.cons t_api_Type .nil), ref15_Ref, none⟩
theorem ref15_Ref_ok : CtrOK Try.prog 29 ref15_Ref_c :=
  fun_at (fz := ref15_Ref_fz) ref15_Ref_fsok ref15_Ref_isok Try.func29 (by kernel_rfl) (c := ref15_Ref_code) (by kernel_rfl) ref15_Ref_lsok1 (by kernel_rfl) (fun x => by kernel_rfl)
end Go.XD


/- Plain words: tables of whole numbers, loops that count up. -/
namespace Go.XD

/-- A loop whose rounds are told by their number. -/
theorem lim_up {A B : Type} {step : (A → Option B) → A → Option B} {y : B} (st : Nat → A) (n : Nat) (h1 : ∀ g i, i < n → step g (st i) = g (st (i + 1))) (h2 : ∀ g, step g (st n) = some y) : lim step (st 0) = some y := by
  have key : ∀ d i, i + d = n → ∀ k, d + 1 ≤ k → iter step k (st i) = some y := by
    intro d
    induction d with
    | zero =>
      intro i hi k hk
      cases k with
      | zero => omega
      | succ k =>
        simp only [iter]
        rw [show i = n by omega]
        exact h2 _
    | succ d ih =>
      intro i hi k hk
      cases k with
      | zero => omega
      | succ k =>
        simp only [iter]
        rw [h1 _ i (by omega)]
        exact ih (i + 1) (by omega) k (by omega)
  exact lim_eq (n + 1) (fun k hk => key n 0 (by omega) k hk)

theorem wrap32 {n : Int} (h1 : -2147483648 ≤ n) (h2 : n ≤ 2147483647) : IntKind.i32.wrap n = n := by
  show (if (true && decide (n % (4294967296 : Int) ≥ 2147483648)) = true then n % (4294967296 : Int) - 4294967296 else n % (4294967296 : Int)) = n
  simp only [Bool.true_and, decide_eq_true_eq]
  split <;> omega

/-- A table by a function. -/
def tab (m : Nat) (g : Nat → Int) : List Int := (List.range m).map g
@[simp] theorem tab_len (m : Nat) (g : Nat → Int) : (tab m g).length = m := by simp [tab]
theorem tab_get {m k : Nat} {g : Nat → Int} {d : Int} (h : k < m) : (tab m g).getD k d = g k := by
  simp [tab, List.getD_eq_getElem?_getD, h]
theorem tab_at {m k : Nat} {g : Nat → Int} (h : k < (tab m g).length) : (tab m g)[k] = g k := by simp [tab]
theorem tab_ext {m : Nat} {g g' : Nat → Int} (h : ∀ k, k < m → g k = g' k) : tab m g = tab m g' := by
  unfold tab
  exact List.map_congr_left fun k hk => h k (List.mem_range.1 hk)
theorem tab_set {m k : Nat} {g g' : Nat → Int} {v : Int} (hv : g' k = v) (h : ∀ j, j ≠ k → g' j = g j) : (tab m g).set k v = tab m g' := by
  apply List.ext_getElem
  · simp
  · intro i h1 h2
    rw [List.getElem_set, tab_at, tab_at]
    split
    · rename_i e; rw [← e, hv]
    · rename_i e; exact (h i (Ne.symm e)).symm
theorem tab_rep (m : Nat) (v : Int) : List.replicate m v = tab m fun _ => v := by
  apply List.ext_getElem
  · simp
  · intro i h1 h2
    rw [List.getElem_replicate, tab_at]
theorem tab_of (l : List Int) : l = tab l.length fun k => l.getD k 0 := by
  apply List.ext_getElem
  · simp
  · intro i h1 h2
    rw [tab_at, List.getD_eq_getElem?_getD, List.getElem?_eq_getElem h1]
    rfl
theorem tab_take {m k : Nat} {g : Nat → Int} (h : k ≤ m) : (tab m g).take k = tab k g := by
  apply List.ext_getElem
  · simp; omega
  · intro i h1 h2
    rw [List.getElem_take, tab_at, tab_at]
theorem tab_drop {m k : Nat} {g : Nat → Int} : (tab m g).drop k = tab (m - k) fun j => g (k + j) := by
  apply List.ext_getElem
  · simp
  · intro i h1 h2
    rw [List.getElem_drop, tab_at, tab_at]

theorem rdL_tab {q : IntKind} {m k : Nat} {g : Nat → Int} (h : k < m) : rdL (.int q) (tab m g) (k : Int) = g k := by
  unfold rdL
  rw [Int.toNat_natCast]
  exact tab_get h

/-! ### Counting -/
section
variable {α : Type}
theorem countP_take_succ {p : α → Bool} {l : List α} {i : Nat} (h : i < l.length) : (l.take (i + 1)).countP p = (l.take i).countP p + (if p l[i] then 1 else 0) := by
  rw [take_snoc h, List.countP_append, List.countP_singleton]
theorem countP_take_le {p : α → Bool} {l : List α} {i j : Nat} (h : i ≤ j) : (l.take i).countP p ≤ (l.take j).countP p := by
  have : (l.take i).Sublist (l.take j) := by
    rw [show l.take i = (l.take j).take i from by rw [List.take_take, Nat.min_eq_left h]]
    exact List.take_sublist _ _
  exact this.countP_le
theorem countP_take_len {p : α → Bool} {l : List α} {i : Nat} : (l.take i).countP p ≤ l.countP p := (List.take_sublist _ _).countP_le
/-- The k-th of the numbers that fit: just k fit ahead of it. -/
theorem range_sel {p : Nat → Bool} : ∀ {m k : Nat} (h : k < ((List.range m).filter p).length), p (((List.range m).filter p)[k]) = true ∧ ((List.range m).filter p)[k] < m ∧ ((List.range (((List.range m).filter p)[k])).filter p).length = k
  | 0, k, h => by simp at h
  | m + 1, k, h => by
    have e : (List.range (m + 1)).filter p = (List.range m).filter p ++ (if p m then [m] else []) := by
      rw [List.range_succ, List.filter_append]
      simp [List.filter_cons]
    by_cases hk : k < ((List.range m).filter p).length
    · have ih := range_sel (p := p) hk
      have e2 : ((List.range (m + 1)).filter p)[k] = ((List.range m).filter p)[k] := by
        simp only [e]
        rw [List.getElem_append_left hk]
      rw [e2]
      exact ⟨ih.1, by omega, ih.2.2⟩
    · have hp : p m = true := by
        cases hpm : p m with
        | true => rfl
        | false =>
          rw [e, hpm] at h
          simp at h
          omega
      have hk' : k = ((List.range m).filter p).length := by
        rw [e, hp] at h
        simp at h
        omega
      have e2 : ((List.range (m + 1)).filter p)[k] = m := by
        simp only [e, hp, if_true]
        rw [List.getElem_append_right (by omega)]
        simp
      rw [e2]
      exact ⟨hp, by omega, hk'.symm⟩
theorem countP_range (d : α) {p : α → Bool} {l : List α} : ∀ {i : Nat}, i ≤ l.length → (l.take i).countP p = ((List.range i).filter fun j => p (l.getD j d)).length
  | 0, _ => by simp
  | i + 1, h => by
    rw [countP_take_succ (by omega), countP_range d (by omega), List.range_succ, List.filter_append, List.length_append]
    congr 1
    have : l.getD i d = l[i] := by simp [List.getD_eq_getElem?_getD, show i < l.length by omega]
    simp only [List.filter_cons, List.filter_nil]
    rw [this]
    split <;> simp
end
end Go.XD


/- Plain words: loops that fold, and may end early. -/
namespace Go.XD

/-- A fold over a list, with each one's place, that may end early. -/
def foldE {S α Y : Type} (f : Nat → S → α → Y ⊕ S) : Nat → S → List α → Y ⊕ S
  | _, s, [] => .inr s
  | i, s, a :: l => match f i s a with
    | .inl y => .inl y
    | .inr s' => foldE f (i + 1) s' l
theorem foldE_drop {S α Y : Type} (f : Nat → S → α → Y ⊕ S) {l : List α} {i : Nat} (hi : i < l.length) (s : S) : foldE f i s (l.drop i) = match f i s l[i] with
    | .inl y => .inl y
    | .inr s' => foldE f (i + 1) s' (l.drop (i + 1)) := by
  rw [List.drop_eq_getElem_cons hi]
  rfl
theorem lim_foldE {A B S α Y : Type} {step : (A → Option B) → A → Option B} (l : List α) (f : Nat → S → α → Y ⊕ S) (pack : S → Nat → A) (yes : Y → B) (out : S → B) (Inv : Nat → S → Prop)
    (h1 : ∀ g i s (hi : i < l.length), Inv i s → step g (pack s i) = match f i s l[i] with
      | .inl y => some (yes y)
      | .inr s' => g (pack s' (i + 1)))
    (hI : ∀ i s (hi : i < l.length), Inv i s → ∀ s', f i s l[i] = .inr s' → Inv (i + 1) s')
    (h2 : ∀ g s, Inv l.length s → step g (pack s l.length) = some (out s)) {s0 : S} (h0 : Inv 0 s0) :
    lim step (pack s0 0) = some (match foldE f 0 s0 l with
      | .inl y => yes y
      | .inr s => out s) := by
  have key : ∀ d i s, i + d = l.length → Inv i s → ∀ k, d + 1 ≤ k → iter step k (pack s i) = some (match foldE f i s (l.drop i) with
      | .inl y => yes y
      | .inr s => out s) := by
    intro d
    induction d with
    | zero =>
      intro i s hi hinv k hk
      cases k with
      | zero => omega
      | succ k =>
        have : i = l.length := by omega
        subst this
        simp only [iter]
        rw [h2 _ s hinv, List.drop_length]
        rfl
    | succ d ih =>
      intro i s hi hinv k hk
      cases k with
      | zero => omega
      | succ k =>
        have hil : i < l.length := by omega
        simp only [iter]
        rw [h1 _ i s hil hinv, foldE_drop f hil]
        cases hf : f i s l[i] with
        | inl y => rfl
        | inr s' => exact ih (i + 1) s' (by omega) (hI i s hil hinv s' hf) k (by omega)
  refine lim_eq (l.length + 1) (fun k hk => ?_)
  have := key l.length 0 s0 (by omega) h0 k hk
  simpa using this
/-- The same, without an end ahead. -/
def foldI {S α : Type} (f : Nat → S → α → S) : Nat → S → List α → S
  | _, s, [] => s
  | i, s, a :: l => foldI f (i + 1) (f i s a) l
theorem lim_foldI {A B S α : Type} {step : (A → Option B) → A → Option B} (l : List α) (f : Nat → S → α → S) (pack : S → Nat → A) (out : S → B) (Inv : Nat → S → Prop)
    (h1 : ∀ g i s (hi : i < l.length), Inv i s → step g (pack s i) = g (pack (f i s l[i]) (i + 1)))
    (hI : ∀ i s (hi : i < l.length), Inv i s → Inv (i + 1) (f i s l[i]))
    (h2 : ∀ g s, Inv l.length s → step g (pack s l.length) = some (out s)) {s0 : S} (h0 : Inv 0 s0) :
    lim step (pack s0 0) = some (out (foldI f 0 s0 l)) := by
  have := lim_foldE (Y := Empty) (step := step) l (fun i s a => .inr (f i s a)) pack (fun y => nomatch y) out Inv h1 (fun i s hi hinv s' e => by
    simp only [Sum.inr.injEq] at e
    exact e ▸ hI i s hi hinv) h2 h0
  rw [this]
  have e : ∀ (l : List α) (i : Nat) (s : S), foldE (Y := Empty) (fun i s a => .inr (f i s a)) i s l = .inr (foldI f i s l) := fun l => by
    induction l with
    | nil => intro i s; rfl
    | cons a l ih => intro i s; simp only [foldE, foldI]; exact ih _ _
  rw [e]
/-- Is there one? -/
theorem lim_any {A B α : Type} {step : (A → Option B) → A → Option B} (l : List α) (p : α → Bool) (pack : Nat → A) {yes no : B}
    (h1 : ∀ g i (hi : i < l.length), step g (pack i) = bif p l[i] then some yes else g (pack (i + 1)))
    (h2 : ∀ g, step g (pack l.length) = some no) : lim step (pack 0) = some (bif l.any p then yes else no) := by
  have := lim_foldE (S := Unit) (Y := Unit) (step := step) l (fun i s a => bif p a then .inl () else .inr ()) (fun _ i => pack i) (fun _ => yes) (fun _ => no) (fun _ _ => True) (fun g i s hi _ => by
    rw [h1 g i hi]
    cases p l[i] <;> rfl) (fun _ _ _ _ _ _ => trivial) (fun g s _ => h2 g) (s0 := ()) trivial
  rw [this]
  have e : ∀ (l : List α) (i : Nat), foldE (S := Unit) (Y := Unit) (fun i s a => bif p a then .inl () else .inr ()) i () l = bif l.any p then .inl () else .inr () := fun l => by
    induction l with
    | nil => intro i; rfl
    | cons a l ih =>
      intro i
      simp only [foldE, List.any_cons]
      cases p a with
      | true => rfl
      | false => exact ih _
  rw [e]
  cases l.any p <;> rfl
end Go.XD


/- Plain law of the package row against the document's answers. -/
namespace Go.XD

abbrev Slots := List V_api_Slot
/-- Places of a list, ags they are read. -/
theorem rdS {l : Slots} {i : Nat} (h : i < l.length) : rdL t_api_Slot l (i : Int) = l[i] := rdL_nat t_api_Slot l h
theorem getDT {t : Ty} {l : List t.T} {i : Nat} (h : i < l.length) : l.getD i t.dflt = l[i] := by simp [List.getD_eq_getElem?_getD, h]

/-! ### row -/
def badS (r : Int) (s : V_api_Slot) : Bool := decide (s.1 < 0) || decide (s.1 ≥ r)
def tC (l : Slots) (r : Int) : Int := bif decide ((l.length : Int) > 16) then 6 else bif l.any (badS r) then 7 else 0
theorem row_Check_eq (l : Slots) (r : Int) : row_Check ((l, ()), r, ()) = some (tC l r, ()) := by
  unfold row_Check tC
  simp only
  cases hd : decide ((l.length : Int) > 16) with
  | true => rfl
  | false =>
    have hl : l.length ≤ 16 := by
      have := of_decide_eq_false hd
      omega
    have := lim_any (step := row_Check_l8_step) l (badS r) (fun i => (r, l, (l.length : Int), (i : Int), ())) (yes := .inl ((7 : Int), ())) (no := .inr (.inl ())) (fun g i hi => by
      unfold row_Check_l8_step badS
      simp only [dlt hi, cond_true, inB_nat hi, ck_true, rdS hi, cond_or, wrap_succ (show i < 9223372036854775807 by omega)]) (fun g => by
      unfold row_Check_l8_step
      simp only [dge (Nat.lt_irrefl _), cond_false])
    simp only [Int.natCast_zero] at this
    rw [cond_false, cond_false]
    first
      | rw [this]
      | erw [this]
    cases l.any (badS r) <;> rfl
theorem ref15_Check_eq (l : Slots) (r : Int) : ref15_Check ((l, ()), r, ()) = some (tC l r, ()) := by
  unfold ref15_Check tC
  simp only
  cases hd : decide ((l.length : Int) > 16) with
  | true => rfl
  | false =>
    have hl : l.length ≤ 16 := by
      have := of_decide_eq_false hd
      omega
    have := lim_any (step := ref15_Check_l8_step) l (badS r) (fun i => ((l, ()), r, (i : Int), ())) (yes := .inl ((7 : Int), (l, ()), ())) (no := .inr (.inl ((l, ()), ()))) (fun g i hi => by
      unfold ref15_Check_l8_step badS
      simp only [dlt hi, cond_true, inB_nat hi, ck_true, rdS hi, cond_or, Bool.true_or, wrap_succ (show i < 9223372036854775807 by omega)]) (fun g => by
      unfold ref15_Check_l8_step
      simp only [dge (Nat.lt_irrefl _), cond_false])
    simp only [Int.natCast_zero] at this
    rw [cond_false, cond_false]
    first
      | rw [this]
      | erw [this]
    cases l.any (badS r) <;> rfl
/-- One shape? -/
def shB (a b : Slots) : Bool := (a.map fun s => s.2.1) == (b.map fun s => s.2.1)
theorem shB_len {a b : Slots} (h : shB a b = true) : a.length = b.length := by
  unfold shB at h
  have := congrArg List.length (of_decide_eq_true (by simpa using h : decide ((a.map fun s => s.2.1) = (b.map fun s => s.2.1)) = true))
  simpa using this
theorem shB_ne {a b : Slots} (h : a.length ≠ b.length) : shB a b = false := by
  cases hs : shB a b with
  | false => rfl
  | true => exact absurd (shB_len hs) h
theorem shB_any : ∀ (a b : Slots), a.length = b.length → (bif (List.range a.length).any (fun i => !((a.getD i (0, false, ())).2.1 == (b.getD i (0, false, ())).2.1)) then false else true) = shB a b := fun a b h => by
  have key : ((List.range a.length).any fun i => !((a.getD i (0, false, ())).2.1 == (b.getD i (0, false, ())).2.1)) = !(shB a b) := by
    rw [Bool.eq_iff_iff]
    unfold shB
    simp only [List.any_eq_true, List.mem_range, Bool.not_eq_true', beq_eq_false_iff_ne, ne_eq]
    constructor
    · rintro ⟨i, hi, hne⟩ he
      apply hne
      have h1 : (a.map fun s => s.2.1)[i]? = (b.map fun s => s.2.1)[i]? := by rw [he]
      have hb : i < b.length := by omega
      simp [hi, hb] at h1
      simp [List.getD_eq_getElem?_getD, hi, hb, h1]
    · intro hne
      refine Classical.byContradiction fun hn => hne ?_
      apply List.ext_getElem
      · simpa using h
      · intro i h1 h2
        have ha : i < a.length := by simpa using h1
        have hb : i < b.length := by simpa using h2
        refine Classical.byContradiction fun hx => hn ⟨i, ha, ?_⟩
        simp [List.getD_eq_getElem?_getD, ha, hb]
        simpa using hx
  rw [key]
  cases shB a b <;> rfl
theorem lneb {a b : Nat} : ((a : Int) != (b : Int)) = decide (a ≠ b) := by
  by_cases h : a = b
  · subst h; simp
  · rw [decide_eq_true h, bne, beq_eq_false_iff_ne.2 (by omega)]; rfl
theorem row_Shape_eq (a b : Slots) (ha : a.length ≤ 100000) : row_Shape ((a, ()), (b, ()), ()) = some (shB a b, ()) := by
  unfold row_Shape slices_EqualFunc_82_p0
  simp only [lneb]
  by_cases h : a.length = b.length
  · have := lim_any (step := slices_EqualFunc_82_p0_l8_step) (List.range a.length) (fun i => !((a.getD i (0, false, ())).2.1 == (b.getD i (0, false, ())).2.1)) (fun i => (b, (), a, (a.length : Int), (i : Int), ())) (yes := .inl (false, ())) (no := .inr (.inl ())) (fun g i hi => by
      have hi' : i < a.length := by simpa using hi
      have hb : i < b.length := by omega
      unfold slices_EqualFunc_82_p0_l8_step row_Shape_1
      simp only [dlt hi', cond_true, inB_nat hi', inB_nat hb, ck_true, rdS hi', rdS hb, Option.bind_some, wrap_succ (show i < 9223372036854775807 by omega)]
      rw [List.getElem_range]
      rw [show a.getD i (0, false, ()) = a[i] from getDT (t := t_api_Slot) hi', show b.getD i (0, false, ()) = b[i] from getDT (t := t_api_Slot) hb]) (fun g => by
      unfold slices_EqualFunc_82_p0_l8_step
      simp only [List.length_range, dge (Nat.lt_irrefl _), cond_false])
    simp only [Int.natCast_zero] at this
    rw [decide_eq_false (by simpa using h), cond_false, ← shB_any a b h]
    first
      | rw [this]
      | erw [this]
    cases (List.range a.length).any (fun i => !((a.getD i (0, false, ())).2.1 == (b.getD i (0, false, ())).2.1)) <;> rfl
  · rw [decide_eq_true h, shB_ne h]
    rfl
theorem ref15_Shape_eq (a b : Slots) (ha : a.length ≤ 100000) : ref15_Shape ((a, ()), (b, ()), ()) = some (shB a b, ()) := by
  unfold ref15_Shape
  simp only [lneb]
  by_cases h : a.length = b.length
  · have := lim_any (step := ref15_Shape_l8_step) (List.range a.length) (fun i => !((a.getD i (0, false, ())).2.1 == (b.getD i (0, false, ())).2.1)) (fun i => ((a, ()), (b, ()), (i : Int), ())) (yes := .inl (false, (a, ()), (b, ()), ())) (no := .inr (.inl ((a, ()), (b, ()), ()))) (fun g i hi => by
      have hi' : i < a.length := by simpa using hi
      have hb : i < b.length := by omega
      unfold ref15_Shape_l8_step
      simp only [dlt hi', cond_true, inB_nat hi', inB_nat hb, ck_true, rdS hi', rdS hb, wrap_succ (show i < 9223372036854775807 by omega)]
      rw [List.getElem_range]
      rw [show a.getD i (0, false, ()) = a[i] from getDT (t := t_api_Slot) hi', show b.getD i (0, false, ()) = b[i] from getDT (t := t_api_Slot) hb]) (fun g => by
      unfold ref15_Shape_l8_step
      simp only [List.length_range, dge (Nat.lt_irrefl _), cond_false])
    simp only [Int.natCast_zero] at this
    rw [decide_eq_false (by simpa using h), cond_false, ← shB_any a b h]
    first
      | rw [this]
      | erw [this]
    cases (List.range a.length).any (fun i => !((a.getD i (0, false, ())).2.1 == (b.getD i (0, false, ())).2.1)) <;> rfl
  · rw [decide_eq_true h, shB_ne h]
    rfl

def refS (l : List V_api_Slot) (r : Int) (mu : Bool) : List V_api_Slot := (r, false, ()) :: l.map fun s => (s.1, s.2.1 || mu, ())

theorem row_Ref_eq (l : List V_api_Slot) (h : l.length ≤ 1000) (r : Int) (mu : Bool) : row_Ref ((l, ()), r, mu, ()) = some ((refS l r mu, ()), ()) := by
  have h1 : lim row_Ref_l6_step (([(r, false, ())], ()), mu, l, (l.length : Int), ((0 : Nat) : Int), ()) = some (.inl ((refS l r mu, ()), ())) := by
    refine lim_at (fun x => ∃ k : Nat, k ≤ l.length ∧ x = ((refS (l.take k) r mu, ()), mu, l, (l.length : Int), (k : Int), ())) (fun x => l.length - x.2.2.2.2.1.toNat) (fun g x hx ih => ?_) ⟨0, by omega, rfl⟩
    obtain ⟨k, hk, rfl⟩ := hx
    unfold row_Ref_l6_step
    simp only
    by_cases h : k < l.length
    · have hd : decide ((k : Int) < (l.length : Int)) = true := by simp; omega
      rw [hd, inB_nat h, wrap_succ (by omega), rdL_nat _ _ h, roomB_ok (by simp [refS]; omega)]
      simp only [cond_true, ck_true]
      refine ih _ ⟨k + 1, by omega, ?_⟩ (by simp; omega)
      simp only [refS, take_snoc h, List.map_append, List.map_cons, List.map_nil, List.cons_append, cond_or]
    · have hd : decide ((k : Int) < (l.length : Int)) = false := by simp; omega
      rw [hd]
      have : k = l.length := by omega
      subst this
      simp
  unfold row_Ref
  simp only
  rw [show ((0 : Int)) = ((0 : Nat) : Int) from rfl, h1]
  rfl
theorem ref15_Ref_eq (l : List V_api_Slot) (h : l.length ≤ 1000) (r : Int) (mu : Bool) : ref15_Ref ((l, ()), r, mu, ()) = some ((refS l r mu, ()), ()) := by
  have h1 : lim ref15_Ref_l6_step ((l, ()), mu, [(r, false, ())], ((0 : Nat) : Int), ()) = some (.inl (refS l r mu, (l, ()), ())) := by
    refine lim_at (fun x => ∃ k : Nat, k ≤ l.length ∧ x = ((l, ()), mu, refS (l.take k) r mu, (k : Int), ())) (fun x => l.length - x.2.2.2.1.toNat) (fun g x hx ih => ?_) ⟨0, by omega, rfl⟩
    obtain ⟨k, hk, rfl⟩ := hx
    unfold ref15_Ref_l6_step
    simp only
    by_cases h : k < l.length
    · have hd : decide ((k : Int) < (l.length : Int)) = true := by simp; omega
      rw [hd, inB_nat h, wrap_succ (by omega), rdL_nat _ _ h, roomB_ok (by simp [refS]; omega)]
      simp only [cond_true, ck_true]
      refine ih _ ⟨k + 1, by omega, ?_⟩ (by simp; omega)
      simp only [refS, take_snoc h, List.map_append, List.map_cons, List.map_nil, List.cons_append, cond_or]
    · have hd : decide ((k : Int) < (l.length : Int)) = false := by simp; omega
      rw [hd]
      have : k = l.length := by omega
      subst this
      simp
  unfold ref15_Ref
  simp only
  rw [show ((0 : Int)) = ((0 : Nat) : Int) from rfl, h1]
  rfl
theorem clone_eq (l : List V_api_Slot) (h : l.length ≤ 1000) : slices_Clone_80 (l, ()) = some (l, ()) := by
  unfold slices_Clone_80
  simp only [List.nil_append]
  rw [roomB_ok (by omega)]
  cases l with
  | nil => simp [agree_same]
  | cons _ _ => simp
/-- With other regions. -/
def good (names : List Int) (s : V_api_Slot) : Prop := 0 ≤ s.1 ∧ s.1 < names.length
def named (names : List Int) (s : V_api_Slot) : V_api_Slot := (names.getD s.1.toNat 0, s.2.1, ())
def Subs (names : List Int) (l : List V_api_Slot) (y : Option (V_api_Type × Int × Unit)) : Prop :=
  ((∀ s ∈ l, good names s) ∧ y = some ((l.map (named names), ()), 0, ())) ∨ ((¬ ∀ s ∈ l, good names s) ∧ y = some (([], ()), 7, ()))
theorem Subs.eq {names : List Int} {l : List V_api_Slot} {y z : Option (V_api_Type × Int × Unit)} (h : Subs names l y) (k : Subs names l z) : y = z := by
  rcases h with ⟨h1, rfl⟩ | ⟨h1, rfl⟩ <;> rcases k with ⟨k1, rfl⟩ | ⟨k1, rfl⟩
  · rfl
  · exact absurd h1 k1
  · exact absurd k1 h1
  · rfl
theorem bad_or (names : List Int) (n : Int) : (decide (n < 0) || decide (n ≥ (names.length : Int))) = true ↔ ¬ (0 ≤ n ∧ n < names.length) := by
  simp only [Bool.or_eq_true, decide_eq_true_eq]
  omega
theorem clone_p_eq (l : List V_api_Slot) (h : l.length ≤ 1000) : slices_Clone_80_p0 (l, ()) = some (.inl (l, ())) := by
  unfold slices_Clone_80_p0
  simp only [List.nil_append]
  rw [roomB_ok (by omega)]
  cases l with
  | nil => simp [agree_same]
  | cons _ _ => simp

theorem row_Subst_eq (l : List V_api_Slot) (h : l.length ≤ 1000) (names : List Int) : Subs names l (row_Subst ((l, ()), names, ())) := by
  have h1 : ∃ y, (((∀ s ∈ l, good names s) ∧ y = .inr (.inl (([], ()), (l.map (named names), ()), ()))) ∨ ((¬ ∀ s ∈ l, good names s) ∧ ∃ c, y = .inl ((7 : Int), ((), ()), (c, ()), ()))) ∧
      lim row_Subst_l6_step ((([] : List V_api_Slot), ()), (l, ()), names, (l.length : Int), ((0 : Nat) : Int), ()) = some y := by
    refine lim_ex (fun x => ∃ k : Nat, k ≤ l.length ∧ (∀ s ∈ l.take k, good names s) ∧ x = (([], ()), ((l.take k).map (named names) ++ l.drop k, ()), names, (l.length : Int), (k : Int), ())) (fun x => l.length - x.2.2.2.2.1.toNat) _ (fun x hx => ?_) ⟨0, by omega, by simp, by simp⟩
    obtain ⟨k, hk, hg, rfl⟩ := hx
    unfold row_Subst_l6_step
    simp only
    by_cases h : k < l.length
    · have hlen : ((l.take k).map (named names) ++ l.drop k).length = l.length := by simp; omega
      have hget : ((l.take k).map (named names) ++ l.drop k).getD k (Ty.dflt t_api_Slot) = l[k] := by
        rw [List.getD_eq_getElem?_getD, List.getElem?_append_right (by simp; omega)]
        simp [List.length_take, Nat.min_eq_left hk, h]
      rw [dlt h, hlen, inB_nat h, wrap_succ (by omega)]
      simp only [cond_true, ck_true, Int.toNat_natCast, cond_or, hget]
      by_cases hb : good names l[k]
      · have hb2 : (decide (l[k].1 < 0) || decide (l[k].1 ≥ (names.length : Int))) = false := by
          rw [Bool.eq_false_iff]
          exact fun e => (bad_or names _).1 e hb
        refine .inr ⟨_, ⟨k + 1, by omega, ?_, ?_⟩, ?_, fun g => by rw [hb2, inB_iff.2 hb]; rfl⟩
        · rw [take_snoc h]
          intro s hs
          rcases List.mem_append.1 hs with hs | hs
          · exact hg s hs
          · rw [List.mem_singleton.1 hs]; exact hb
        · have hset : ((l.take k).map (named names) ++ l.drop k).set k (named names l[k]) = (l.take (k + 1)).map (named names) ++ l.drop (k + 1) := by
            rw [List.set_append_right _ _ (by simp; omega)]
            simp only [List.length_map, List.length_take, Nat.min_eq_left hk, Nat.sub_self]
            rw [List.drop_eq_getElem_cons h]
            rw [take_snoc h, List.map_append]
            simp only [List.set_cons_zero, List.map_cons, List.map_nil, List.append_assoc, List.cons_append, List.nil_append]
          rw [← hset]
          simp only [named, rdL]
          rfl
        · simp only
          omega
      · have hb2 : (decide (l[k].1 < 0) || decide (l[k].1 ≥ (names.length : Int))) = true := (bad_or names _).2 hb
        refine .inl ⟨_, .inr ⟨fun hall => hb (hall _ (List.getElem_mem h)), _, rfl⟩, fun g => by rw [hb2]; rfl⟩
    · have : k = l.length := by omega
      subst this
      refine .inl ⟨_, .inl ⟨by simpa using hg, rfl⟩, fun g => ?_⟩
      rw [dge h]
      simp only [cond_false, List.take_length, List.drop_length, List.append_nil]
  obtain ⟨y, hy, hl⟩ := h1
  unfold row_Subst row_Clone_p0
  simp only
  rw [clone_p_eq l h]
  simp only [Option.bind_some, out1_inl]
  rw [show ((0 : Int)) = ((0 : Nat) : Int) from rfl, hl]
  rcases hy with ⟨h1, rfl⟩ | ⟨h1, c, rfl⟩
  · exact .inl ⟨h1, rfl⟩
  · exact .inr ⟨h1, rfl⟩

theorem ref15_Subst_eq (l : List V_api_Slot) (h : l.length ≤ 1000) (names : List Int) : Subs names l (ref15_Subst ((l, ()), names, ())) := by
  have h1 : ∃ y, (((∀ s ∈ l, good names s) ∧ y = .inr (.inl (l.map (named names), (l, ()), ([], ()), ()))) ∨ ((¬ ∀ s ∈ l, good names s) ∧ ∃ c, y = .inl ((7 : Int), (l, ()), ((), ()), c, ()))) ∧
      lim ref15_Subst_l6_step ((l, ()), (([] : List V_api_Slot), ()), names, ([] : List V_api_Slot), ((0 : Nat) : Int), ()) = some y := by
    refine lim_ex (fun x => ∃ k : Nat, k ≤ l.length ∧ (∀ s ∈ l.take k, good names s) ∧ x = ((l, ()), ([], ()), names, (l.take k).map (named names), (k : Int), ())) (fun x => l.length - x.2.2.2.2.1.toNat) _ (fun x hx => ?_) ⟨0, by omega, by simp, by simp⟩
    obtain ⟨k, hk, hg, rfl⟩ := hx
    unfold ref15_Subst_l6_step
    simp only
    by_cases h : k < l.length
    · rw [dlt h, inB_nat h, wrap_succ (by omega), rdL_nat _ _ h]
      simp only [cond_true, ck_true, cond_or]
      by_cases hb : good names l[k]
      · have hb2 : (decide (l[k].1 < 0) || decide (l[k].1 ≥ (names.length : Int))) = false := by
          rw [Bool.eq_false_iff]
          exact fun e => (bad_or names _).1 e hb
        refine .inr ⟨_, ⟨k + 1, by omega, ?_, ?_⟩, ?_, fun g => by rw [hb2, inB_iff.2 hb, roomB_ok (by simp; omega)]; rfl⟩
        · rw [take_snoc h]
          intro s hs
          rcases List.mem_append.1 hs with hs | hs
          · exact hg s hs
          · rw [List.mem_singleton.1 hs]; exact hb
        · simp only [take_snoc h, List.map_append, List.map_cons, List.map_nil, named, rdL]
          rfl
        · simp only
          omega
      · have hb2 : (decide (l[k].1 < 0) || decide (l[k].1 ≥ (names.length : Int))) = true := (bad_or names _).2 hb
        refine .inl ⟨_, .inr ⟨fun hall => hb (hall _ (List.getElem_mem h)), _, rfl⟩, fun g => by rw [hb2]; rfl⟩
    · have : k = l.length := by omega
      subst this
      refine .inl ⟨_, .inl ⟨by simpa using hg, rfl⟩, fun g => ?_⟩
      rw [dge h]
      simp
  obtain ⟨y, hy, hl⟩ := h1
  unfold ref15_Subst
  simp only
  rw [show ((0 : Int)) = ((0 : Nat) : Int) from rfl, hl]
  rcases hy with ⟨h1, rfl⟩ | ⟨h1, c, rfl⟩
  · exact .inl ⟨h1, rfl⟩
  · exact .inr ⟨h1, rfl⟩
theorem Subs.ok {names : List Int} {l : List V_api_Slot} {y : Option (V_api_Type × Int × Unit)} (h : Subs names l y) : ∃ l' e, y = some ((l', ()), e, ()) ∧ l'.length ≤ l.length := by
  rcases h with ⟨_, rfl⟩ | ⟨_, rfl⟩
  · exact ⟨_, _, rfl, by simp⟩
  · exact ⟨_, _, rfl, by simp⟩


theorem refS_len (l : Slots) (r : Int) (mu : Bool) : (refS l r mu).length = l.length + 1 := by simp [refS]
/-- What a reference leads to. -/
def derefS (l : Slots) : V_api_Type × Int × Bool × Unit := match l with
  | [] => (([], ()), 0, false, ())
  | s :: r => bif s.2.1 then (([], ()), 0, false, ()) else ((r, ()), s.1, true, ())
theorem row_Deref_eq (l : Slots) (h : l.length ≤ 1000) : row_Deref ((l, ()), ()) = some (derefS l) := by
  unfold row_Deref derefS
  cases l with
  | nil => rfl
  | cons s r =>
    obtain ⟨a, b, _⟩ := s
    simp only
    rw [show (((a, b, ()) :: r : Slots).length : Int) = ((r.length + 1 : Nat) : Int) from rfl, show ((((r.length + 1 : Nat) : Int)) == (0 : Int)) = false from by rw [beq_eq_false_iff_ne]; omega]
    rw [show inB (0 : Int) ((a, b, ()) :: r : Slots).length = true from by simp [inB]]
    have e : rdL t_api_Slot ((a, b, ()) :: r) (0 : Int) = (a, b, ()) := rfl
    rw [e]
    cases b with
    | true => rfl
    | false =>
      have e2 : (((a, false, ()) :: r : Slots).drop (1 : Int).toNat) = r := rfl
      simp only [e2]
      rw [clone_eq r (by simp at h; omega)]
      rw [show (decide ((0 : Int) ≤ (1 : Int)) && decide ((1 : Int) ≤ ((r.length + 1 : Nat) : Int))) = true from by simp; omega]
      rfl

/-! ### sig -/

end Go.XD


/- Plain words: sets of whole numbers as rising lists. -/
namespace Go.XD

/-- Rising. -/
abbrev Ris (l : List Int) : Prop := l.Pairwise (· < ·)
theorem Ris.head {x : Int} {l : List Int} (h : Ris (x :: l)) : ∀ y ∈ l, x < y := (List.pairwise_cons.1 h).1
theorem ris_unique : ∀ {a b : List Int}, Ris a → Ris b → (∀ x, x ∈ a ↔ x ∈ b) → a = b
  | [], [], _, _, _ => rfl
  | [], y :: b, _, _, h => absurd ((h y).2 List.mem_cons_self) (by simp)
  | x :: a, [], _, _, h => absurd ((h x).1 List.mem_cons_self) (by simp)
  | x :: a, y :: b, ha, hb, h => by
    have h1 := ha.head
    have h2 := hb.head
    have e : x = y := by
      have hx := (h x).1 List.mem_cons_self
      have hy := (h y).2 List.mem_cons_self
      rcases List.mem_cons.1 hx with e | hx
      · exact e
      · rcases List.mem_cons.1 hy with e | hy
        · exact e.symm
        · have := h1 y hy
          have := h2 x hx
          omega
    subst e
    rw [ris_unique (List.pairwise_cons.1 ha).2 (List.pairwise_cons.1 hb).2 (fun z => ?_)]
    constructor
    · intro hz
      rcases List.mem_cons.1 ((h z).1 (List.mem_cons_of_mem _ hz)) with e | hz'
      · have := h1 z hz; omega
      · exact hz'
    · intro hz
      rcases List.mem_cons.1 ((h z).2 (List.mem_cons_of_mem _ hz)) with e | hz'
      · have := h2 z hz; omega
      · exact hz'
theorem srt_mem {l : List Int} {x : Int} : x ∈ srt l ↔ x ∈ l := by simp [srt]
theorem srt_sorted (l : List Int) : (srt l).Pairwise (· ≤ ·) := by
  have := List.pairwise_mergeSort (le := fun x y : Int => decide (x ≤ y)) (fun a b c h1 h2 => by simp at *; omega) (fun a b => by simp; omega) l
  exact this.imp (by simp)
theorem srt_le {l : List Int} {i j : Nat} (hij : i ≤ j) (hj : j < (srt l).length) : (srt l)[i]'(Nat.lt_of_le_of_lt hij hj) ≤ (srt l)[j] := by
  rcases Nat.eq_or_lt_of_le hij with e | h
  · subst e; exact Int.le_refl _
  · exact List.pairwise_iff_getElem.1 (srt_sorted l) i j (by omega) hj h
theorem arr_get {l : List Int} {i : Nat} (h : i < l.length) : l.toArray[i]! = l[i] := by simp [getElem!_def, h]
/-- The members of a list, rising. -/
def rset (l : List Int) : List Int := cpt (srt l)
theorem rset_mem {l : List Int} {x : Int} : x ∈ rset l ↔ x ∈ l := by
  constructor
  · intro h; exact srt_mem.1 (cpt_mem h)
  · intro h
    have h := srt_mem.2 h
    -- the first place of x is kept
    have key : ∀ n, (∃ i, ∃ hi : i < (srt l).length, i ≤ n ∧ (srt l)[i] = x) → ∃ i, ∃ hi : i < (srt l).length, (srt l)[i] = x ∧ (i = 0 ∨ ∀ h : i - 1 < (srt l).length, (srt l)[i - 1] ≠ x) := by
      intro n
      induction n with
      | zero =>
        rintro ⟨i, hi, hn, he⟩
        exact ⟨i, hi, he, .inl (by omega)⟩
      | succ n ih =>
        rintro ⟨i, hi, hn, he⟩
        by_cases hp : ∃ h : i - 1 < (srt l).length, (srt l)[i - 1] = x
        · rcases Nat.eq_zero_or_pos i with h0 | h0
          · exact ⟨i, hi, he, .inl h0⟩
          · obtain ⟨h1, h2⟩ := hp
            exact ih ⟨i - 1, h1, by omega, h2⟩
        · exact ⟨i, hi, he, .inr (fun h1 h2 => hp ⟨h1, h2⟩)⟩
    obtain ⟨i0, hi0, he0⟩ := List.getElem_of_mem h
    obtain ⟨i, hi, he, hk⟩ := key i0 ⟨i0, hi0, Nat.le_refl _, he0⟩
    unfold rset cpt Lib.compact Lib.compactUpTo
    refine List.mem_map.2 ⟨i, List.mem_filter.2 ⟨List.mem_range.2 hi, ?_⟩, ?_⟩
    · unfold Lib.keeps
      rw [decide_eq_true_eq]
      rcases hk with hk | hk
      · exact .inl hk
      · refine .inr ?_
        rw [arr_get hi, arr_get (by omega), he]
        exact (hk (by omega)).symm
    · rw [arr_get hi]; exact he
theorem rset_ris (l : List Int) : Ris (rset l) := by
  unfold rset cpt Lib.compact Lib.compactUpTo Ris
  rw [List.pairwise_map]
  have h0 : ((List.range (srt l).length).filter (Lib.keeps (srt l).toArray)).Pairwise (· < ·) := List.Pairwise.sublist List.filter_sublist List.pairwise_lt_range
  refine List.Pairwise.imp_of_mem (fun {a b} ha hb hab => ?_) h0
  have hb' := List.mem_filter.1 hb
  have hbl := List.mem_range.1 hb'.1
  have hk := hb'.2
  unfold Lib.keeps at hk
  rw [decide_eq_true_eq] at hk
  rcases hk with hk | hk
  · omega
  · rw [arr_get hbl, arr_get (by omega)] at hk
    rw [arr_get hbl, arr_get (by omega)]
    have h1 := srt_le (l := l) (i := a) (j := b - 1) (by omega) (by omega)
    have h2 := srt_le (l := l) (i := b - 1) (j := b) (by omega) hbl
    omega
theorem rset_eq {l m : List Int} (h : Ris m) (hm : ∀ x, x ∈ m ↔ x ∈ l) : rset l = m := ris_unique (rset_ris l) h (fun x => rset_mem.trans (hm x).symm)
theorem rset_len (l : List Int) : (rset l).length ≤ l.length := by
  have := cpt_len (srt l)
  rw [srt_len] at this
  exact this
/-- A list without twins among another's members is no longer. -/
theorem sub_len : ∀ {a b : List Int}, a.Nodup → (∀ x ∈ a, x ∈ b) → a.length ≤ b.length
  | [], b, _, _ => Nat.zero_le _
  | x :: a, b, hn, hs => by
    have hn' := List.nodup_cons.1 hn
    have h1 : x ∈ b := hs x List.mem_cons_self
    have := sub_len (a := a) (b := b.erase x) hn'.2 (fun y hy => (List.mem_erase_of_ne (fun e => hn'.1 (by rw [← e]; exact hy))).2 (hs y (List.mem_cons_of_mem _ hy)))
    rw [List.length_erase_of_mem h1] at this
    have hp : 0 < b.length := List.length_pos_of_mem h1
    simp only [List.length_cons]
    omega
theorem Ris.nodup {l : List Int} (h : Ris l) : l.Nodup := List.Pairwise.imp (fun h e => by omega) h
theorem full_mem {a b : List Int} (hn : a.Nodup) (hs : ∀ x ∈ a, x ∈ b) (hl : b.length ≤ a.length) : ∀ x ∈ b, x ∈ a := fun x hx => by
  by_cases h : x ∈ a
  · exact h
  · have := sub_len (a := x :: a) (b := b) (List.nodup_cons.2 ⟨h, hn⟩) (fun y hy => by
      rcases List.mem_cons.1 hy with e | hy
      · rw [e]; exact hx
      · exact hs y hy)
    simp only [List.length_cons] at this
    omega
end Go.XD


/- Plain law of RowTells. -/
namespace Go.XD

theorem any_ne {α : Type} [DecidableEq α] (d : α) : ∀ (a b : List α), a.length = b.length → ((List.range a.length).any fun i => !(decide (a.getD i d = b.getD i d))) = !(decide (a = b)) := fun a b h => by
  rw [Bool.eq_iff_iff, List.any_eq_true]
  simp only [Bool.not_eq_true', decide_eq_false_iff_not, List.mem_range]
  constructor
  · rintro ⟨i, hi, hne⟩ e
    subst e
    exact hne rfl
  · intro hne
    by_cases hc : ∃ i, i < a.length ∧ a.getD i d ≠ b.getD i d
    · obtain ⟨i, hi, hx⟩ := hc
      exact ⟨i, hi, hx⟩
    · refine absurd (List.ext_getElem h fun i h1 h2 => ?_) hne
      have h3 : a.getD i d = b.getD i d := by
        by_cases hx : a.getD i d = b.getD i d
        · exact hx
        · exact absurd ⟨i, h1, hx⟩ hc
      simpa [List.getD_eq_getElem?_getD, h1, h2] using h3
theorem sameI_eq (a b : List Int) (ha : a.length ≤ 1000000) : ref01_Same (a, b, ()) = some (decide (a = b), ()) := by
  unfold ref01_Same
  simp only [lneb]
  by_cases h : a.length = b.length
  · have := lim_any (step := ref01_Same_l8_step) (List.range a.length) (fun i => !(decide (a.getD i 0 = b.getD i 0))) (fun i => (a, b, (i : Int), ())) (yes := .inl (false, ())) (no := .inr (.inl ())) (fun g i hi => by
      have hi' : i < a.length := by simpa using hi
      have hb : i < b.length := by omega
      unfold ref01_Same_l8_step
      simp only [dlt hi', cond_true, inB_nat hi', inB_nat hb, ck_true, rdL_nat (.int .i64) a hi', rdL_nat (.int .i64) b hb, wrap_succ (show i < 9223372036854775807 by omega)]
      rw [List.getElem_range, show a.getD i 0 = a[i] from by simp [List.getD_eq_getElem?_getD, hi'], show b.getD i 0 = b[i] from by simp [List.getD_eq_getElem?_getD, hb]]
      by_cases e : a[i] = b[i]
      · rw [e]; simp
      · rw [show (a[i] != b[i]) = true from by simpa using e, decide_eq_false e]; rfl) (fun g => by
      unfold ref01_Same_l8_step
      simp only [List.length_range, dge (Nat.lt_irrefl _), cond_false])
    simp only [Int.natCast_zero] at this
    rw [decide_eq_false (by simpa using h), cond_false, this, any_ne 0 a b h]
    cases decide (a = b) <;> rfl
  · rw [decide_eq_true h, cond_true, decide_eq_false (fun e => h (by rw [e]))]
theorem sameS_eq (a b : Slots) (ha : a.length ≤ 100000) : row_Same ((a, ()), (b, ()), ()) = some (decide (a = b), ()) := by
  unfold row_Same slices_Equal_84
  simp only [lneb]
  by_cases h : a.length = b.length
  · have := lim_any (step := slices_Equal_84_l8_step) (List.range a.length) (fun i => !(decide (a.getD i (0, false, ()) = b.getD i (0, false, ())))) (fun i => (a, b, (a.length : Int), (i : Int), ())) (yes := .inl (false, ())) (no := .inr (.inl ())) (fun g i hi => by
      have hi' : i < a.length := by simpa using hi
      have hb : i < b.length := by omega
      unfold slices_Equal_84_l8_step
      simp only [dlt hi', cond_true, inB_nat hi', inB_nat hb, ck_true, rdS hi', rdS hb, wrap_succ (show i < 9223372036854775807 by omega)]
      rw [List.getElem_range, show a.getD i (0, false, ()) = a[i] from getDT (t := t_api_Slot) hi', show b.getD i (0, false, ()) = b[i] from getDT (t := t_api_Slot) hb]
      have e : (a[i].1 == b[i].1 && (a[i].2.1 == b[i].2.1 && true)) = decide (a[i] = b[i]) := by
        rw [Bool.and_true, Bool.eq_iff_iff]
        simp only [Bool.and_eq_true, beq_iff_eq, decide_eq_true_eq]
        constructor
        · rintro ⟨h1, h2⟩
          exact Prod.ext h1 (Prod.ext h2 rfl)
        · intro h; rw [h]; exact ⟨rfl, rfl⟩
      rw [e]) (fun g => by
      unfold slices_Equal_84_l8_step
      simp only [List.length_range, dge (Nat.lt_irrefl _), cond_false])
    simp only [Int.natCast_zero] at this
    rw [decide_eq_false (by simpa using h), cond_false, this, any_ne (0, false, ()) a b h]
    cases decide (a = b) <;> rfl
  · rw [decide_eq_true h, cond_true, decide_eq_false (fun e => h (by rw [e]))]
    rfl
theorem rsameS_eq (a b : Slots) (ha : a.length ≤ 100000) : ref15_Same ((a, ()), (b, ()), ()) = some (decide (a = b), ()) := by
  unfold ref15_Same
  simp only [ref15_Shape_eq a b ha, Option.bind_some]
  cases hs : shB a b with
  | false =>
    rw [Bool.not_false, cond_true, decide_eq_false (fun e => by rw [e] at hs; simp [shB] at hs)]
  | true =>
    have h := shB_len hs
    have := lim_any (step := ref15_Same_l8_step) (List.range a.length) (fun i => !(decide ((a.map (·.1)).getD i 0 = (b.map (·.1)).getD i 0))) (fun i => ((a, ()), (b, ()), (i : Int), ())) (yes := .inl (false, (a, ()), (b, ()), ())) (no := .inr (.inl ((a, ()), (b, ()), ()))) (fun g i hi => by
      have hi' : i < a.length := by simpa using hi
      have hb : i < b.length := by omega
      unfold ref15_Same_l8_step
      simp only [dlt hi', cond_true, inB_nat hi', inB_nat hb, ck_true, rdS hi', rdS hb, wrap_succ (show i < 9223372036854775807 by omega)]
      rw [List.getElem_range, show (a.map (·.1)).getD i 0 = a[i].1 from by simp [List.getD_eq_getElem?_getD, hi'], show (b.map (·.1)).getD i 0 = b[i].1 from by simp [List.getD_eq_getElem?_getD, hb]]
      by_cases e : a[i].1 = b[i].1
      · rw [e]; simp
      · rw [show (a[i].1 != b[i].1) = true from by simpa using e, decide_eq_false e]; rfl) (fun g => by
      unfold ref15_Same_l8_step
      simp only [List.length_range, dge (Nat.lt_irrefl _), cond_false])
    simp only [Int.natCast_zero] at this
    rw [Bool.not_true, cond_false, this]
    have h2 := any_ne 0 (a.map (·.1)) (b.map (·.1)) (by simpa using h)
    rw [List.length_map] at h2
    rw [h2]
    have e : decide (a.map (·.1) = b.map (·.1)) = decide (a = b) := by
      rw [Bool.eq_iff_iff]
      simp only [decide_eq_true_eq]
      constructor
      · intro h1
        have h3 : (a.map fun s => s.2.1) = (b.map fun s => s.2.1) := by simpa [shB] using hs
        refine List.ext_getElem h fun i i1 i2 => ?_
        have k1 : (a.map (·.1))[i]'(by simpa using i1) = (b.map (·.1))[i]'(by simpa using i2) := by simp only [h1]
        have k2 : (a.map fun s => s.2.1)[i]'(by simpa using i1) = (b.map fun s => s.2.1)[i]'(by simpa using i2) := by simp only [h3]
        simp only [List.getElem_map] at k1 k2
        exact Prod.ext k1 (Prod.ext k2 rfl)
      · intro h1; rw [h1]
    rw [e]
    cases decide (a = b) <;> rfl

/-! ### Has -/
theorem has1_eq (s : V_api_Slot) (r : Int) : row_Has_1_p0 (s, (r, ()), ()) = some (.inl (s.1 == r, (r, ()), ())) := rfl
theorem Has_eq (l : Slots) (hl : l.length ≤ 100000) (r : Int) : row_Has ((l, ()), r, ()) = some (l.any fun s => s.1 == r, ()) := by
  have := lim_foldE (S := Unit) (step := slices_IndexFunc_120_p0_l4_step) l (fun (i : Nat) _ (a : V_api_Slot) => bif a.1 == r then Sum.inl i else .inr ()) (fun _ i => (l, ((r, ()), ()), (l.length : Int), (i : Int), ())) (fun i => .inl ((i : Int), ((r, ()), ()), ())) (fun _ => .inr (.inl (((r, ()), ()), ()))) (fun _ _ => True) (fun g i s hi _ => by
    unfold slices_IndexFunc_120_p0_l4_step
    simp only [dlt hi, cond_true, inB_nat hi, ck_true, rdS hi, wrap_succ (show i < 9223372036854775807 by omega)]
    change Option.bind (row_Has_1_p0 (l[i], (r, ()), ())) _ = _
    rw [has1_eq]
    simp only [Option.bind_some, out1_inl]
    cases (l[i].1 == r) <;> rfl) (fun _ _ _ _ _ _ => trivial) (fun g s _ => by
    unfold slices_IndexFunc_120_p0_l4_step
    simp only [dge (Nat.lt_irrefl _), cond_false]) (s0 := ()) trivial
  have hx : ∀ (l : Slots) (i : Nat), (match foldE (S := Unit) (fun (i : Nat) _ (a : V_api_Slot) => bif a.1 == r then Sum.inl i else .inr ()) i () l with
    | .inl (i : Nat) => decide ((i : Int) ≥ 0)
    | .inr _ => decide ((-1 : Int) ≥ 0)) = l.any fun s => s.1 == r := fun l => by
    induction l with
    | nil => intro i; rfl
    | cons a l ih =>
      intro i
      simp only [foldE, List.any_cons]
      cases (a.1 == r) with
      | true => simp
      | false => simp only [cond_false, Bool.false_or]; exact ih (i + 1)
  simp only [Int.natCast_zero] at this
  unfold row_Has slices_ContainsFunc_103_p0 slices_IndexFunc_120_p0
  simp only
  first
    | rw [this]
    | erw [this]
  rw [← hx l 0]
  cases foldE (S := Unit) (fun (i : Nat) _ (a : V_api_Slot) => bif a.1 == r then Sum.inl i else .inr ()) 0 () l <;> rfl
theorem rHas_eq (l : Slots) (hl : l.length ≤ 100000) (r : Int) : ref15_Has ((l, ()), r, ()) = some (l.any fun s => s.1 == r, ()) := by
  have := lim_any (step := ref15_Has_l4_step) l (fun s => s.1 == r) (fun i => ((l, ()), r, (i : Int), ())) (yes := .inl (true, (l, ()), ())) (no := .inr (.inl ((l, ()), ()))) (fun g i hi => by
    unfold ref15_Has_l4_step
    simp only [dlt hi, cond_true, inB_nat hi, ck_true, rdS hi, wrap_succ (show i < 9223372036854775807 by omega)]) (fun g => by
    unfold ref15_Has_l4_step
    simp only [dge (Nat.lt_irrefl _), cond_false])
  simp only [Int.natCast_zero] at this
  unfold ref15_Has
  simp only
  rw [this]
  cases l.any fun s => s.1 == r <;> rfl

/-! ### Regions -/
theorem Regions_eq (l : Slots) (hl : l.length ≤ 100000) : row_Regions ((l, ()), ()) = some (rset (l.map (·.1)), ()) := by
  have := lim_foldI (step := row_Regions_l6_step) l (fun _ (s : List Int) (a : V_api_Slot) => s ++ [a.1]) (fun s i => (s, l, (l.length : Int), (i : Int), ())) (fun s => .inl (s, ())) (fun i s => s.length ≤ i) (fun g i s hi hs => by
    unfold row_Regions_l6_step
    simp only [dlt hi, cond_true, inB_nat hi, ck_true, rdS hi, wrap_succ (show i < 9223372036854775807 by omega)]
    rw [roomB_ok (by simp; omega)]
    rfl) (fun i s hi hs => by simp; omega) (fun g s hs => by
    unfold row_Regions_l6_step
    simp only [dge (Nat.lt_irrefl _), cond_false]) (s0 := []) (by simp)
  have hx : ∀ (l : Slots) (i : Nat) (s : List Int), foldI (fun _ (s : List Int) (a : V_api_Slot) => s ++ [a.1]) i s l = s ++ l.map (·.1) := fun l => by
    induction l with
    | nil => intro i s; simp [foldI]
    | cons a l ih => intro i s; simp only [foldI, List.map_cons]; rw [ih]; simp
  rw [hx, List.nil_append] at this
  simp only [Int.natCast_zero] at this
  unfold row_Regions
  simp only
  rw [this]
  rfl
/-- A region beyond what is told. -/
def elig (out : List Int) (v : Int) : Prop := out = [] ∨ out.getD (out.length - 1) 0 < v
instance (out : List Int) (v : Int) : Decidable (elig out v) := by unfold elig; infer_instance
def bestOf (l : Slots) (out : List Int) (b : Int) (n : Nat) : Prop :=
  (b = -1 ∧ ∀ i, (h : i < l.length) → i < n → ¬ elig out l[i].1) ∨ (∃ j, ∃ h : j < l.length, j < n ∧ b = (j : Int) ∧ elig out l[j].1 ∧ ∀ i, (h' : i < l.length) → i < n → elig out l[i].1 → l[j].1 ≤ l[i].1)
theorem best_loop (l : Slots) (hl : l.length ≤ 100000) (out : List Int) (ho : out.length ≤ 100000) : ∃ y, (∃ b, y = .inl (b, (l, ()), out, ()) ∧ bestOf l out b l.length) ∧ lim ref15_Regions_l10_step ((l, ()), out, (-1 : Int), (0 : Int), ()) = some y := by
  refine lim_ex (fun x => ∃ (b : Int) (k : Nat), k ≤ l.length ∧ bestOf l out b k ∧ x = ((l, ()), out, b, (k : Int), ())) (fun x => l.length - x.2.2.2.1.toNat) _ (fun x hx => ?_) ⟨-1, 0, Nat.zero_le _, .inl ⟨rfl, fun i _ hi => absurd hi (Nat.not_lt_zero _)⟩, rfl⟩
  obtain ⟨b, k, hk, hb, rfl⟩ := hx
  unfold ref15_Regions_l10_step ref15_Regions_j107_v
  simp only
  by_cases h : k < l.length
  · rw [dlt h, inB_nat h, wrap_succ (by omega), rdS h]
    simp only [cond_true, ck_true]
    have hv2 : ((out.length : Int) == 0) = decide (out = []) := by
      cases out with
      | nil => rfl
      | cons x o => simp; omega
    have hv1 : out ≠ [] → IntKind.i64.wrap ((out.length : Int) - 1) = ((out.length - 1 : Nat) : Int) := fun h0 => by
      have : 0 < out.length := List.length_pos_iff.2 h0
      rw [wrap64 (by omega) (by omega)]
      omega
    have hin : (inB (IntKind.i64.wrap ((out.length : Int) - 1)) out.length || !(!((out.length : Int) == 0))) = true := by
      rw [hv2]
      by_cases h0 : out = []
      · simp [h0]
      · have : 0 < out.length := List.length_pos_iff.2 h0
        rw [hv1 h0, inB_nat (by omega)]
        rfl
    rw [hin]
    have hel : (cond ((out.length : Int) == 0) true (decide (l[k].1 > out.getD (IntKind.i64.wrap ((out.length : Int) - 1)).toNat (Ty.dflt (.int .i64))))) = decide (elig out l[k].1) := by
      rw [hv2]
      by_cases h0 : out = []
      · rw [decide_eq_true (show elig out l[k].1 from .inl h0), decide_eq_true h0]; rfl
      · rw [hv1 h0, Int.toNat_natCast, decide_eq_false h0, cond_false]
        have : Ty.dflt (.int .i64) = (0 : Int) := rfl
        rw [this]
        by_cases h1 : out.getD (out.length - 1) 0 < l[k].1
        · rw [decide_eq_true (show elig out l[k].1 from .inr h1)]
          exact decide_eq_true h1
        · rw [decide_eq_false (show ¬ elig out l[k].1 from fun hh => hh.elim h0 h1)]
          exact decide_eq_false h1
    rw [hel]
    simp only [ck_true]
    have hnext : ∀ b', bestOf l out b' (k + 1) → ∃ x', (∃ (b : Int) (k : Nat), k ≤ l.length ∧ bestOf l out b k ∧ x' = ((l, ()), out, b, (k : Int), ())) ∧ l.length - x'.2.2.2.1.toNat < l.length - k ∧ x' = ((l, ()), out, b', ((k + 1 : Nat) : Int), ()) := fun b' hb' =>
      ⟨_, ⟨b', k + 1, h, hb', rfl⟩, by simp only; omega, rfl⟩
    by_cases he : elig out l[k].1
    · rw [decide_eq_true he]
      simp only [cond_true, Bool.and_true]
      rcases hb with ⟨rfl, hno⟩ | ⟨j, hj, hjk, rfl, hje, hmin⟩
      · obtain ⟨x', h1, h2, rfl⟩ := hnext (k : Int) (.inr ⟨k, h, by omega, rfl, he, fun i h' hi hei => by
          rcases Nat.lt_or_ge i k with h3 | h3
          · exact absurd hei (hno i h' h3)
          · have : i = k := by omega
            subst this
            exact Int.le_refl _⟩)
        refine .inr ⟨_, h1, by simpa using h2, fun g => ?_⟩
        rfl
      · have hdj : decide ((j : Int) < 0) = false := by simp
        rw [hdj, inB_nat hj, rdS hj]
        simp only [Bool.not_false, Bool.true_or, ck_true, cond_false]
        by_cases hlt : l[k].1 < l[j].1
        · obtain ⟨x', h1, h2, rfl⟩ := hnext (k : Int) (.inr ⟨k, h, by omega, rfl, he, fun i h' hi hei => by
            rcases Nat.lt_or_ge i k with h3 | h3
            · have := hmin i h' h3 hei; omega
            · have : i = k := by omega
              subst this
              exact Int.le_refl _⟩)
          refine .inr ⟨_, h1, by simpa using h2, fun g => ?_⟩
          rw [decide_eq_true hlt]
          rfl
        · obtain ⟨x', h1, h2, rfl⟩ := hnext (j : Int) (.inr ⟨j, hj, by omega, rfl, hje, fun i h' hi hei => by
            rcases Nat.lt_or_ge i k with h3 | h3
            · exact hmin i h' h3 hei
            · have : i = k := by omega
              subst this
              omega⟩)
          refine .inr ⟨_, h1, by simpa using h2, fun g => ?_⟩
          rw [decide_eq_false hlt]
          rfl
    · rw [decide_eq_false he]
      simp only [cond_false, Bool.and_false, Bool.not_false, Bool.or_true, ck_true]
      obtain ⟨x', h1, h2, rfl⟩ := hnext b (by
        rcases hb with ⟨rfl, hno⟩ | ⟨j, hj, hjk, rfl, hje, hmin⟩
        · refine .inl ⟨rfl, fun i h' hi hei => ?_⟩
          rcases Nat.lt_or_ge i k with h3 | h3
          · exact hno i h' h3 hei
          · have : i = k := by omega
            subst this
            exact he hei
        · refine .inr ⟨j, hj, by omega, rfl, hje, fun i h' hi hei => ?_⟩
          rcases Nat.lt_or_ge i k with h3 | h3
          · exact hmin i h' h3 hei
          · have : i = k := by omega
            subst this
            exact absurd hei he)
      exact .inr ⟨_, h1, by simpa using h2, fun g => rfl⟩
  · have : k = l.length := by omega
    subst this
    refine .inl ⟨_, ⟨b, rfl, hb⟩, fun g => ?_⟩
    rw [dge h]
    rfl
theorem last_le {out : List Int} (h : Ris out) {x : Int} (hx : x ∈ out) : x ≤ out.getD (out.length - 1) 0 := by
  obtain ⟨i, hi, rfl⟩ := List.getElem_of_mem hx
  have hl : out.length - 1 < out.length := by omega
  rw [List.getD_eq_getElem?_getD, List.getElem?_eq_getElem hl, Option.getD_some]
  rcases Nat.eq_or_lt_of_le (show i ≤ out.length - 1 by omega) with e | h1
  · simp only [e]; exact Int.le_refl _
  · exact Int.le_of_lt (List.pairwise_iff_getElem.1 h i _ hi hl h1)
theorem rRegions_eq (l : Slots) (hl : l.length ≤ 100000) : ref15_Regions ((l, ()), ()) = some (rset (l.map (·.1)), ()) := by
  have h1 : ∃ y, (y = .inl (rset (l.map (·.1)), (l, ()), ()) ∨ y = .inr (.inl (rset (l.map (·.1)), (l, ()), ()))) ∧ lim ref15_Regions_l4_step ((l, ()), ([] : List Int), ()) = some y := by
    refine lim_ex (fun x => ∃ out : List Int, Ris out ∧ (∀ v ∈ out, v ∈ l.map (·.1)) ∧ (∀ v ∈ l.map (·.1), ¬ elig out v → v ∈ out) ∧ x = ((l, ()), out, ())) (fun x => l.length - x.2.1.length) _ (fun x hx => ?_) ⟨[], List.Pairwise.nil, by simp, fun v _ hv => absurd (.inl rfl) hv, rfl⟩
    obtain ⟨out, hr, hs, hf, rfl⟩ := hx
    have hol : out.length ≤ l.length := by simpa using sub_len hr.nodup hs
    unfold ref15_Regions_l4_step
    simp only
    by_cases h : out.length < l.length
    · rw [dlt h]
      obtain ⟨y, ⟨b, rfl, hb⟩, hlim⟩ := best_loop l hl out (by omega)
      simp only [cond_true]
      have hlim' := hlim
      rw [hlim']
      simp only [Option.bind_some, out1_inl]
      rcases hb with ⟨rfl, hno⟩ | ⟨j, hj, _, rfl, hje, hmin⟩
      · refine .inl ⟨_, .inl rfl, fun g => ?_⟩
        rw [rset_eq hr (fun x => ⟨hs x, fun hx => hf x hx (fun he => ?_)⟩)]
        · rfl
        · obtain ⟨s, hs1, rfl⟩ := List.mem_map.1 hx
          obtain ⟨i, hi, rfl⟩ := List.getElem_of_mem hs1
          exact hno i hi hi he
      · have hdj : decide ((j : Int) < 0) = false := by simp
        refine .inr ⟨((l, ()), out ++ [l[j].1], ()), ⟨out ++ [l[j].1], ?_, ?_, ?_, rfl⟩, by simp; omega, fun g => ?_⟩
        · refine List.pairwise_append.2 ⟨hr, List.pairwise_singleton _ _, fun a ha b hb => ?_⟩
          rw [List.mem_singleton.1 hb]
          have := last_le hr ha
          rcases hje with h0 | h0
          · rw [h0] at ha; cases ha
          · omega
        · intro v hv
          rcases List.mem_append.1 hv with hv | hv
          · exact hs v hv
          · rw [List.mem_singleton.1 hv]
            exact List.mem_map.2 ⟨l[j], List.getElem_mem hj, rfl⟩
        · intro v hv hne
          have hg : (out ++ [l[j].1]).getD ((out ++ [l[j].1]).length - 1) 0 = l[j].1 := by simp
          have hle : v ≤ l[j].1 := by
            rcases Int.lt_or_le l[j].1 v with h3 | h3
            · exact absurd (.inr (by rw [hg]; exact h3)) hne
            · exact h3
          by_cases he : elig out v
          · obtain ⟨s, hs1, rfl⟩ := List.mem_map.1 hv
            obtain ⟨i, hi, rfl⟩ := List.getElem_of_mem hs1
            have := hmin i hi hi he
            rw [show l[i].1 = l[j].1 from by omega]
            simp
          · exact List.mem_append_left _ (hf v hv he)
        · rw [hdj, inB_nat hj, rdS hj]
          simp only [cond_false, ck_true]
          rw [roomB_ok (by simp; omega)]
          rfl
    · refine .inl ⟨_, .inr rfl, fun g => ?_⟩
      rw [dge h, rset_eq hr (fun x => ⟨hs x, full_mem hr.nodup hs (by simp; omega) x⟩)]
      rfl
  obtain ⟨y, hy, hlim⟩ := h1
  unfold ref15_Regions
  simp only
  rw [hlim]
  rcases hy with rfl | rfl <;> rfl

theorem awake15 : law15_awake () = some (true, ()) := by
  unfold law15_awake
  rw [row_Ref_eq _ (by simp)]
  simp only [Option.bind_some, refS, List.map_cons, List.map_nil, Bool.or_true]
  rw [rsameS_eq _ _ (by simp)]
  simp only [decide_true, Option.bind_some, cond_true]
  rw [Has_eq _ (by simp)]
  simp only [Option.bind_some]
  rw [row_Check_eq]
  rfl
theorem law15_RowTells_true (x : V_api_Type × V_api_Type × Int × Int × Unit) : law15_RowTells x = some (true, ()) := by
  obtain ⟨⟨a, _⟩, ⟨b, _⟩, n, r, _⟩ := x
  unfold law15_RowTells
  simp only
  rw [show ref15_Few ((a, ()), (30 : Int), ()) = some (decide ((a.length : Int) ≤ 30), ()) from rfl, show ref15_Few ((b, ()), (30 : Int), ()) = some (decide ((b.length : Int) ≤ 30), ()) from rfl]
  simp only [Option.bind_some]
  by_cases ha : (a.length : Int) ≤ 30
  · by_cases hb : (b.length : Int) ≤ 30
    · rw [decide_eq_true ha, decide_eq_true hb]
      have ha' : a.length ≤ 30 := by omega
      have hb' : b.length ≤ 30 := by omega
      have hc : row_Clone ((a, ()), ()) = some ((a, ()), ()) := by
        unfold row_Clone
        simp only
        rw [clone_eq a (by omega)]
        rfl
      simp only [Bool.not_true, Bool.not_false, cond_true, cond_false, row_Check_eq, ref15_Check_eq, Option.bind_some, beq_self_eq_true, row_Shape_eq a b (by omega), ref15_Shape_eq a b (by omega), sameS_eq a b (by omega), rsameS_eq a b (by omega), hc, rsameS_eq a a (by omega), decide_true, Regions_eq a (by omega), rRegions_eq a (by omega)]
      rw [sameI_eq _ _ (by have := rset_len (a.map (·.1)); simp at this; omega)]
      simp only [decide_true, Option.bind_some, cond_true, Has_eq a (by omega), rHas_eq a (by omega), beq_self_eq_true, awake15]
    · rw [decide_eq_true ha, decide_eq_false hb]
      simp only [Bool.not_true, Bool.not_false, cond_true, cond_false, awake15, Option.bind_some]
  · rw [decide_eq_false ha]
    simp only [Bool.not_true, Bool.not_false, cond_true, cond_false, awake15, Option.bind_some]
end Go.XD


/- The row: RowTells returns true, for every input. -/
namespace Go.Proofs.Ytpgmlgdbchjhfaa
open Go.XD

theorem rowTells_own : ownKnob Try.prog.godebug = none := by kernel_rfl
theorem rowTells_lifted (os : Os) (started : os.Started) (H : Type) (enc : TypeId × Value → H) :
    ReturnsInHanded {} Try.checked os 14 .any (Rows.rowTellsSpec.pre6 enc Try.prog Try.f14 Rows.rowTellsRow.domain false) (Rows.rowTellsSpec.post enc Try.prog Try.f14 false true false false) :=
  law_ok (C := Try.checked) started rowTells_own (by kernel_rfl) Try.func14
    (ChangeSpec.witness6 (enc := enc) (C := Try.checked) false ⟨#[], #[.agg #[.slice none 0 0], .agg #[.slice none 0 0], .int .i64 0, .int .i64 0], []⟩ 8 (by kernel_rfl) (by kernel_rfl) (by kernel_rfl) (by kernel_rfl))
    rfl (fun ds h => by
      match ds, h with
      | [_, _, _, _], _ => rfl) rfl (rt := 4) (by kernel_rfl) (by kernel_rfl) law15_RowTells_ok law15_RowTells_true (by kernel_rfl) (by kernel_rfl)
theorem rowTells_holds : Rows.RowTellsSaid :=
  OpenClaim.holds_of_wide 14 Try.f14 rfl rfl rfl rfl rfl rfl rfl ⟨rfl, rfl, rfl, rfl, rfl⟩ rfl rfl rfl rfl rfl (by kernel_rfl) Try.func14 (by kernel_rfl)
    (of_decide_eq_true (by kernel_rfl)) (by unfold Func.isWrapper; first | (rw [if_pos (by decide +kernel)]; kernel_rfl) | (rw [if_neg (by decide +kernel)]; exact ⟨rfl, rfl⟩))
    (fun os started H enc _ => rowTells_lifted os started H enc)
#print axioms rowTells_holds
end Go.Proofs.Ytpgmlgdbchjhfaa


