/- The soundness of operations at slices of own elements and at maps, of calls, and of regions in the order of the text. -/
import Derived.Maps.Keyed
import Derived.DeepKeys3
import Derived.Test.YtcongaiganloaaaKb
import Derived.Test.YtcongaiganloaaaKa
set_option linter.unusedVariables false
set_option linter.unusedSimpArgs false
set_option linter.unusedSectionVars false
set_option linter.unnecessarySimpa false
set_option linter.deprecated false
set_option maxRecDepth 100000
/- Slices whose elements are their own: one apart, and put back. -/
namespace Go.XD

section
variable {P : Program} {F : Fm} {B : Nat → Prop} {S : St} {γ : Gam} {W : World} {fid : Nat}

/-- The blocks of all, with one's at its place. -/
theorem flat_set {α : Type} : ∀ (bls : List (List α)) (k : Nat) (l : List α), bls[k]? = some [] → (bls.set k l).flatten.Perm (l ++ bls.flatten)
  | [], k, l, h => by simp at h
  | b :: r, 0, l, h => by
    simp only [List.getElem?_cons_zero, Option.some.injEq] at h
    subst h
    simp
  | b :: r, k + 1, l, h => by
    have := flat_set r k l (by simpa using h)
    simp only [List.set_cons_succ, List.flatten_cons]
    refine (List.Perm.append_left b this).trans ?_
    rw [← List.append_assoc, ← List.append_assoc]
    exact List.Perm.append_right _ List.perm_append_comm
theorem flat_take {α : Type} {bls : List (List α)} {k : Nat} {l : List α} (h : bls[k]? = some l) : bls.flatten.Perm (l ++ (bls.set k []).flatten) := by
  have hk := (List.getElem?_eq_some_iff.1 h).1
  have h1 : (bls.set k [])[k]? = some [] := by simp [hk]
  have := flat_set (bls.set k []) k l h1
  rw [List.set_set] at this
  have e : bls.set k l = bls := by
    apply List.ext_getElem?
    intro j
    rw [List.getElem?_set]
    split
    · rename_i e
      subst e
      exact h.symm
    · rfl
  rwa [e] at this

/-- Objects told anew: the world is as it was, nothing more is tracked. -/
theorem Hp.re (hp : Hp F B S γ W) {B' : Nat → Prop} (hB : ∀ id, B id → B' id) (S' : St) (γ' : Gam)
    (h1 : ∀ id, B id → ∀ ob', S'.get id = some ob' → ∃ ob, S.get id = some ob ∧ like ob ob' ∧ hdG γ' id = hdG γ id)
    (h2 : ∀ b, tracked S' γ' b → tracked S γ b)
    (h3 : Stp F B S γ W S' γ' W → ∀ id ob, S'.get id = some ob → ObRep W (Frz F S' γ' W) S'.get γ' id ob)
    (h4 : ∀ id id' ob ob' g c c', S'.get id = some ob → S'.get id' = some ob' → (g, c) ∈ γ' id → (g, c') ∈ γ' id' → id = id')
    (h5 : ∀ id ob, S'.get id = some ob → ((γ' id).map (·.1)).Nodup)
    (h6 : ∀ id ob, S'.get id = some ob → B' id ∧ bnds B' ob.dsOf) : Stp F B S γ W S' γ' W ∧ Hp F B' S' γ' W := by
  have hst : Stp F B S γ W S' γ' W := ⟨h1, rfl, rfl, rfl, Nat.le_refl _, fun b _ _ => rfl, fun b hb => .inl (h2 b hb)⟩
  exact ⟨hst, hst.hp hp hB (h3 hst) h4 h5 h6⟩

/-- An element, by an object of its own. -/
theorem one_rep {G : Nat → Prop} {get : Nat → Option Ob} {γ' : Gam} {c : CP} {x : c.T} {w : Value} {b : List (List (Nat × Nat))} {n : Nat} {d : D} {ob : Ob} (h : oneS c x n = some (d, ob)) (r : RepQ W G c x [w] b) (hg : γ' n = b.flatten) (hn : get n = some ob) :
    RepD W.cell? G get γ' d w ∧ ObRep W G get γ' n ob ∧ d.leaf = true ∧ d.isGd = false ∧ ob.dsOf = [] ∧ (∀ B' : Nat → Prop, B' n → d.bnd B') := by
  cases c with
  | own e =>
    simp only [oneS, Option.some.injEq, Prod.mk.injEq] at h
    obtain ⟨rfl, rfl⟩ := h
    obtain ⟨v, o, h1, rfl, h2⟩ := r
    simp only [List.cons.injEq, and_true] at h1
    subst h1
    simp only [List.flatten_cons, List.flatten_nil, List.append_nil] at hg
    refine ⟨?_, ?_, rfl, rfl, rfl, fun B' hB => hB⟩
    · simp only [RepD]
      refine ⟨?_, ?_⟩
      · rcases h2 with ⟨_, _, a, rfl⟩ | ⟨g, c, us, t, _, rfl, _⟩ <;> rfl
      · rw [hn]
        simp only
        rcases h2 with ⟨rfl, rfl, a, rfl⟩ | ⟨g, c, us, t, rfl, rfl, _⟩
        · exact .inr ⟨hd_nil hg, a, rfl⟩
        · exact .inl ⟨g, c, hd_one hg, rfl⟩
    · rcases h2 with ⟨rfl, rfl, a, rfl⟩ | ⟨g, c, us, t, rfl, rfl, k1, k2, k3, k4, k5⟩
      · exact .inl ⟨hg, rfl⟩
      · exact .inr ⟨g, c, us, t, hg, k1, k2, k3, k4, k5⟩
  | arr e =>
    simp only [oneS, Option.some.injEq, Prod.mk.injEq] at h
    obtain ⟨rfl, rfl⟩ := h
    obtain ⟨v, o, h1, rfl, h2⟩ := r
    simp only [List.cons.injEq, and_true] at h1
    subst h1
    simp only [List.flatten_cons, List.flatten_nil, List.append_nil] at hg
    refine ⟨?_, ?_, rfl, rfl, rfl, fun B' hB => hB⟩
    · simp only [RepD]
      refine ⟨?_, ?_⟩
      · rcases h2 with ⟨_, _, a, rfl⟩ | ⟨g, c, us, t, bls, _, rfl, _⟩ <;> rfl
      · rw [hn]
        simp only
        rcases h2 with ⟨rfl, rfl, a, rfl⟩ | ⟨g, c, us, t, bls, rfl, rfl, _⟩
        · exact .inr ⟨hd_nil hg, a, rfl⟩
        · exact .inl ⟨g, c, by unfold hdG; rw [hg]; rfl, rfl⟩
    · rcases h2 with ⟨rfl, rfl, a, rfl⟩ | ⟨g, c, us, t, bls, rfl, rfl, k1, k2, k3, k4, k5⟩
      · exact .inl ⟨hg, rfl, rfl⟩
      · exact .inr ⟨g, c, us, t, bls, hg, k1, k2, k3, k4, k5⟩
  | opt e =>
    simp only [oneS, Option.some.injEq, Prod.mk.injEq] at h
    obtain ⟨rfl, rfl⟩ := h
    obtain ⟨v, o, h1, rfl, h2⟩ := r
    simp only [List.cons.injEq, and_true] at h1
    subst h1
    simp only [List.flatten_cons, List.flatten_nil, List.append_nil] at hg
    refine ⟨?_, ?_, rfl, rfl, rfl, fun B' hB => hB⟩
    · simp only [RepD]
      refine ⟨?_, ?_⟩
      · rcases h2 with ⟨_, _, rfl⟩ | ⟨y, g, c, us, t, b, _, _, rfl, _⟩ <;> rfl
      · rw [hn]
        simp only
        rcases h2 with ⟨rfl, rfl, rfl⟩ | ⟨y, g, c, us, t, b, rfl, rfl, rfl, _⟩
        · exact ⟨fun e => (by cases e), fun _ => rfl⟩
        · exact ⟨fun _ => ⟨g, c, by unfold hdG; rw [hg]; rfl, rfl⟩, fun e => (by cases e)⟩
    · refine ⟨w, w, o, rfl, ?_, h2⟩
      rw [hg]
  | _ => simp [oneS] at h

theorem getD_of {α : Type} {xs : List α} {i : Nat} {d : α} (h : i < xs.length) : xs[i]? = some (xs.getD i d) := by
  rw [List.getD_eq_getElem?_getD, List.getElem?_eq_getElem h]
  rfl
/-- One element stands apart. -/
theorem Hp.focus (hp : Hp F B S γ W) (hf : ¬ B fid) (n : Nat) {id i : Nat} {c : CP} {xs : List c.T} {d : D} {ob : Ob} (hob : S.get id = some (.arr c xs none)) (hi : i < xs.length) (ho : oneS c (xs.getD i c.dflt) fid = some (d, ob)) :
    ∃ g cap us t w γ', hdG γ id = some (g, cap) ∧ W.heap[g]? = some (.cells us t (0, 0)) ∧ us[i]? = some w ∧
      Stp F B S γ W ⟨n, [(fid, some ob), (id, some (.arr c xs (some (i, d))))] ++ S.m⟩ γ' W ∧ Hp F (ins B fid) ⟨n, [(fid, some ob), (id, some (.arr c xs (some (i, d))))] ++ S.m⟩ γ' W ∧
      RepD W.cell? (Frz F ⟨n, [(fid, some ob), (id, some (.arr c xs (some (i, d))))] ++ S.m⟩ γ' W) (St.get ⟨n, [(fid, some ob), (id, some (.arr c xs (some (i, d))))] ++ S.m⟩) γ' d w ∧ d.bnd (ins B fid) := by
  have hidB := (hp.obsB id _ hob).1
  have hne : id ≠ fid := fun e => hf (e ▸ hidB)
  rcases hp.obs id _ hob with ⟨_, h2, _⟩ | ⟨g, cap, us, t, bls, k1, k2, k3, k4, k5, k6, k7⟩
  · subst h2
    simp at hi
  obtain ⟨w, b, q1, q2, q3⟩ := k7 i _ (getD_of (d := c.dflt) hi)
  simp only at q3
  obtain ⟨L1, hL1⟩ : ∃ L1, L1 = (g, cap) :: (bls.set i []).flatten := ⟨_, rfl⟩
  obtain ⟨γ', hγ'⟩ : ∃ γ', γ' = updG (updG γ id L1) fid b.flatten := ⟨_, rfl⟩
  have gf : γ' fid = b.flatten := by rw [hγ', updG_self]
  have gi : γ' id = L1 := by rw [hγ', updG_ne _ _ hne, updG_self]
  have go : ∀ k, k ≠ id → k ≠ fid → γ' k = γ k := fun k h1 h2 => by rw [hγ', updG_ne _ _ h2, updG_ne _ _ h1]
  have hperm : (γ id).Perm (b.flatten ++ L1) := by
    rw [k1, hL1]
    refine (List.Perm.cons _ (flat_take q2)).trans ?_
    exact List.perm_middle.symm
  have hnd := (hperm.map (·.1)).nodup_iff.1 (hp.nd id _ hob)
  rw [List.map_append, List.nodup_append] at hnd
  have m1 : ∀ q, q ∈ L1 → q ∈ γ id := fun q hq => hperm.mem_iff.2 (List.mem_append_right _ hq)
  have m2 : ∀ q, q ∈ b.flatten → q ∈ γ id := fun q hq => hperm.mem_iff.2 (List.mem_append_left _ hq)
  have m3 : ∀ x c1 c2, (x, c1) ∈ b.flatten → (x, c2) ∈ L1 → False := fun x c1 c2 h1 h2 =>
    hnd.2.2 x (List.mem_map.2 ⟨_, h1, rfl⟩) x (List.mem_map.2 ⟨_, h2, rfl⟩) rfl
  obtain ⟨S', hS'⟩ : ∃ S' : St, S' = ⟨n, [(fid, some ob), (id, some (.arr c xs (some (i, d))))] ++ S.m⟩ := ⟨_, rfl⟩
  have hget : ∀ k, S'.get k = if fid = k then some ob else if id = k then some (.arr c xs (some (i, d))) else S.get k := fun k => by
    rw [hS']
    show St.get ⟨n, (fid, some ob) :: (id, some (.arr c xs (some (i, d)))) :: S.m⟩ k = _
    rw [get_cons]
    split
    · rfl
    · exact getM_cons _ _ _ _
  have getf : S'.get fid = some ob := by rw [hget, if_pos rfl]
  have geti : S'.get id = some (.arr c xs (some (i, d))) := by rw [hget, if_neg (Ne.symm hne), if_pos rfl]
  have geto : ∀ k, k ≠ id → k ≠ fid → S'.get k = S.get k := fun k h1 h2 => by rw [hget, if_neg (Ne.symm h2), if_neg (Ne.symm h1)]
  have hhd : hdG γ' id = hdG γ id := by unfold hdG; rw [gi, hL1, k1]; rfl
  have hcases : ∀ k o, S'.get k = some o → (k = fid ∧ o = ob) ∨ (k = id ∧ o = .arr c xs (some (i, d))) ∨ (k ≠ id ∧ k ≠ fid ∧ S.get k = some o) := fun k o h => by
    by_cases h1 : k = fid
    · subst h1
      rw [getf] at h
      exact .inl ⟨rfl, (Option.some.inj h).symm⟩
    · by_cases h2 : k = id
      · subst h2
        rw [geti] at h
        exact .inr (.inl ⟨rfl, (Option.some.inj h).symm⟩)
      · rw [geto k h2 h1] at h
        exact .inr (.inr ⟨h2, h1, h⟩)
  have hone : ∀ G : Nat → Prop, RepQ W G c (xs.getD i c.dflt) [w] b → _ := fun G hq => one_rep (get := S'.get) (γ' := γ') (n := fid) ho hq gf getf
  have hkey := hp.re (B' := ins B fid) (fun _ h => .inl h) S' γ' (fun k hk o h => by
      rcases hcases k o h with ⟨rfl, _⟩ | ⟨rfl, rfl⟩ | ⟨h1, h2, h3⟩
      · exact absurd hk hf
      · exact ⟨_, hob, rfl, hhd⟩
      · exact ⟨o, h3, like_refl _, hd_of (go k h1 h2)⟩) (fun x hx => by
      obtain ⟨k, o, cc, h1, h2⟩ := hx
      rcases hcases k o h1 with ⟨rfl, _⟩ | ⟨rfl, _⟩ | ⟨e1, e2, h3⟩
      · exact ⟨id, _, cc, hob, m2 _ (gf ▸ h2)⟩
      · exact ⟨k, _, cc, hob, m1 _ (gi ▸ h2)⟩
      · exact ⟨k, o, cc, h3, go k e1 e2 ▸ h2⟩) (fun hst k o h => by
      have hq : RepQ W (Frz F S' γ' W) c (xs.getD i c.dflt) [w] b := RepQ.keep (fun a ha => rfl) (fun b hb => hst.frz hb) (fun _ _ _ _ => rfl) q3
      rcases hcases k o h with ⟨rfl, rfl⟩ | ⟨rfl, rfl⟩ | ⟨h1, h2, h3⟩
      · exact (hone _ hq).2.1
      · refine .inr ⟨g, cap, us, t, bls.set i [], by rw [gi, hL1], k2, k3, k4, k5, by rw [List.length_set]; exact k6, fun j x hx => ?_⟩
        obtain ⟨v, b', j1, j2, j3⟩ := k7 j x hx
        by_cases hj : j = i
        · subst hj
          have hjl := (List.getElem?_eq_some_iff.1 q2).1
          rw [q1] at j1
          simp only [Option.some.injEq] at j1
          subst j1
          refine ⟨w, [], q1, by simp [hjl], fun _ => ⟨rfl, (hone _ hq).1⟩, fun e => absurd rfl e⟩
        · refine ⟨v, b', j1, by rw [List.getElem?_set, if_neg (Ne.symm hj)]; exact j2, fun e => absurd e hj, fun _ => RepQ.keep (fun a ha => rfl) (fun b hb => hst.frz hb) (fun _ _ _ _ => rfl) j3⟩
      · exact hst.ob hp h3 (go k h1 h2) (fun _ _ _ => rfl)) (fun k k' o o' x c1 c2 h h' e e' => by
      rcases hcases k o h with ⟨rfl, _⟩ | ⟨rfl, _⟩ | ⟨a1, a2, a3⟩ <;> rcases hcases k' o' h' with ⟨rfl, _⟩ | ⟨rfl, _⟩ | ⟨b1, b2, b3⟩
      · rfl
      · exact (m3 x c1 c2 (gf ▸ e) (gi ▸ e')).elim
      · exact (b1 (hp.inj id k' _ o' x c1 c2 hob b3 (m2 _ (gf ▸ e)) (go k' b1 b2 ▸ e')).symm).elim
      · exact (m3 x c2 c1 (gf ▸ e') (gi ▸ e)).elim
      · rfl
      · exact (b1 (hp.inj k k' _ o' x c1 c2 hob b3 (m1 _ (gi ▸ e)) (go k' b1 b2 ▸ e')).symm).elim
      · exact (a1 (hp.inj id k _ o x c2 c1 hob a3 (m2 _ (gf ▸ e')) (go k a1 a2 ▸ e)).symm).elim
      · exact (a1 (hp.inj k' k _ o x c2 c1 hob a3 (m1 _ (gi ▸ e')) (go k a1 a2 ▸ e)).symm).elim
      · exact hp.inj k k' o o' x c1 c2 a3 b3 (go k a1 a2 ▸ e) (go k' b1 b2 ▸ e')) (fun k o h => by
      rcases hcases k o h with ⟨rfl, _⟩ | ⟨rfl, _⟩ | ⟨h1, h2, h3⟩
      · rw [gf]; exact hnd.1
      · rw [gi]; exact hnd.2.1
      · rw [go k h1 h2]; exact hp.nd k o h3) (fun k o h => by
      have hq := hone _ q3
      rcases hcases k o h with ⟨rfl, rfl⟩ | ⟨rfl, rfl⟩ | ⟨h1, h2, h3⟩
      · exact ⟨.inr rfl, by rw [hq.2.2.2.2.1]; trivial⟩
      · exact ⟨.inl hidB, ⟨hq.2.2.2.2.2 _ (.inr rfl), trivial⟩⟩
      · have := hp.obsB k o h3
        exact ⟨.inl this.1, bnds_mono (fun _ h => .inl h) this.2⟩)
  rw [← hS']
  refine ⟨g, cap, us, t, w, γ', by unfold hdG; rw [k1]; rfl, k2, q1, hkey.1, hkey.2, (hone _ (RepQ.keep (fun a ha => rfl) (fun b hb => hkey.1.frz hb) (fun _ _ _ _ => rfl) q3)).1, (hone _ q3).2.2.2.2.2 _ (.inr rfl)⟩

/-- One object is told anew, and written; what it holds no more is frozen. -/
theorem Hp.wr (hp : Hp F B S γ W) (n : Nat) {id : Nat} {ob ob' : Ob} {L : List (Nat × Nat)} {W' : World} (hob : S.get id = some ob) (hL : ∀ q, q ∈ L → q ∈ γ id) (hn : (L.map (·.1)).Nodup) (hh : L.head? = (γ id).head?) (hl : like ob ob')
    (hoth : ∀ b, (∀ c, (b, c) ∉ γ id) → W'.heap[b]? = W.heap[b]?) (hsz : W'.heap.size = W.heap.size) (ho : W'.os = W.os) (ht : W'.tape = W.tape) (hout : W'.output = W.output)
    (hnew : Stp F B S γ W ⟨n, (id, some ob') :: S.m⟩ (updG γ id L) W' → ObRep W' (Frz F ⟨n, (id, some ob') :: S.m⟩ (updG γ id L) W') (St.get ⟨n, (id, some ob') :: S.m⟩) (updG γ id L) id ob') (hb : bnds B ob'.dsOf) :
    Stp F B S γ W ⟨n, (id, some ob') :: S.m⟩ (updG γ id L) W' ∧ Hp F B ⟨n, (id, some ob') :: S.m⟩ (updG γ id L) W' := by
  have hget : ∀ k, St.get ⟨n, (id, some ob') :: S.m⟩ k = if id = k then some ob' else S.get k := fun k => get_cons _ _ _ _ _
  have hcases : ∀ k o, St.get ⟨n, (id, some ob') :: S.m⟩ k = some o → (k = id ∧ o = ob') ∨ (k ≠ id ∧ S.get k = some o) := fun k o h => by
    rw [hget] at h
    by_cases e : id = k
    · subst e
      rw [if_pos rfl] at h
      exact .inl ⟨rfl, (Option.some.inj h).symm⟩
    · rw [if_neg e] at h
      exact .inr ⟨Ne.symm e, h⟩
  have gi : updG γ id L id = L := updG_self _ _ _
  have go : ∀ k, k ≠ id → updG γ id L k = γ k := fun k h => updG_ne _ _ h
  have hhd : hdG (updG γ id L) id = hdG γ id := by unfold hdG; rw [gi]; exact hh
  have hsub : ∀ k o q, St.get ⟨n, (id, some ob') :: S.m⟩ k = some o → q ∈ updG γ id L k → ∃ o', S.get k = some o' ∧ q ∈ γ k := fun k o q h hq => by
    rcases hcases k o h with ⟨rfl, _⟩ | ⟨e, h2⟩
    · exact ⟨ob, hob, hL q (gi ▸ hq)⟩
    · exact ⟨o, h2, go k e ▸ hq⟩
  have hst : Stp F B S γ W ⟨n, (id, some ob') :: S.m⟩ (updG γ id L) W' := by
    refine ⟨fun k hk o h => ?_, ho, ht, hout, by omega, fun b hb hT => hoth b (fun c hc => hT ⟨id, ob, c, hob, hc⟩), fun b hb => ?_⟩
    · rcases hcases k o h with ⟨rfl, rfl⟩ | ⟨e, h2⟩
      · exact ⟨ob, hob, hl, hhd⟩
      · exact ⟨o, h2, like_refl _, hd_of (go k e)⟩
    · obtain ⟨k, o, c', h1, h2⟩ := hb
      obtain ⟨o', h3, h4⟩ := hsub k o _ h1 h2
      exact .inl ⟨k, o', c', h3, h4⟩
  refine ⟨hst, hst.hp hp (fun _ h => h) (fun k o h => ?_) (fun k k' o o' g1 c1 c2 h h' h1 h2 => ?_) (fun k o h => ?_) (fun k o h => ?_)⟩
  · rcases hcases k o h with ⟨rfl, rfl⟩ | ⟨e, h2⟩
    · exact hnew hst
    · exact hst.ob hp h2 (go k e) (fun g' c' hg' => hoth g' (fun cc hc => e (hp.inj k id o ob g' c' cc h2 hob hg' hc)))
  · obtain ⟨_, a1, a2⟩ := hsub k o _ h h1
    obtain ⟨_, b1, b2⟩ := hsub k' o' _ h' h2
    exact hp.inj k k' _ _ g1 c1 c2 a1 b1 a2 b2
  · rcases hcases k o h with ⟨rfl, rfl⟩ | ⟨e, h2⟩
    · rw [gi]; exact hn
    · rw [go k e]; exact hp.nd k o h2
  · rcases hcases k o h with ⟨rfl, rfl⟩ | ⟨e, h2⟩
    · exact ⟨(hp.obsB k _ hob).1, hb⟩
    · exact hp.obsB k o h2

theorem flat_sub {α : Type} {bls : List (List α)} {k : Nat} {q : α} (h : q ∈ (bls.set k []).flatten) : q ∈ bls.flatten := by
  rw [List.mem_flatten] at h ⊢
  obtain ⟨l, h1, h2⟩ := h
  rcases List.mem_or_eq_of_mem_set h1 with h3 | rfl
  · exact ⟨l, h3, h2⟩
  · cases h2
theorem flat_nd {bls : List (List (Nat × Nat))} {k : Nat} (q : Nat × Nat) (h : ((q :: bls.flatten).map (·.1)).Nodup) : ((q :: (bls.set k []).flatten).map (·.1)).Nodup := by
  cases hk : bls[k]? with
  | none =>
    rw [List.set_eq_of_length_le (List.getElem?_eq_none_iff.1 hk)]
    exact h
  | some l =>
    have p := ((List.Perm.cons q (flat_take hk)).map (·.1)).nodup_iff.1 h
    simp only [List.map_cons, List.map_append] at p ⊢
    rw [List.nodup_cons] at p ⊢
    refine ⟨fun hq => p.1 (List.mem_append_right _ hq), (List.nodup_append.1 p.2).2.1⟩

/-- A leaf is stored at an element. -/
theorem Hp.arrStore (hp : Hp F B S γ W) (n : Nat) {id i : Nat} {c : CP} {xs : List c.T} {hl : Option (Nat × D)} {d : D} {u : Value} (hob : S.get id = some (.arr c xs hl)) (hi : i < xs.length) (hh : ∀ k d0, hl = some (k, d0) → k = i)
    (hd : RepD W.cell? (Frz F S γ W) S.get γ d u) (hb : d.bnd B) {g cap : Nat} {us : Array Value} {t : TypeId} (h1 : hdG γ id = some (g, cap)) (h2 : W.heap[g]? = some (.cells us t (0, 0))) :
    i < us.size ∧ ∃ γ', Stp F B S γ W ⟨n, (id, some (.arr c xs (some (i, d)))) :: S.m⟩ γ' (W.setRow g (us.setIfInBounds i u)) ∧ Hp F B ⟨n, (id, some (.arr c xs (some (i, d)))) :: S.m⟩ γ' (W.setRow g (us.setIfInBounds i u)) := by
  rcases hp.obs id _ hob with ⟨_, k2, _⟩ | ⟨g', cap', us', t', bls, k1, k2, k3, k4, k5, k6, k7⟩
  · subst k2
    simp at hi
  have e : hdG γ id = some (g', cap') := by unfold hdG; rw [k1]; rfl
  rw [h1] at e
  simp only [Option.some.injEq, Prod.mk.injEq] at e
  obtain ⟨rfl, rfl⟩ := e
  rw [h2] at k2
  simp only [Option.some.injEq, Obj.cells.injEq] at k2
  obtain ⟨rfl, rfl, _⟩ := k2
  have hsz : i < us.size := by omega
  refine ⟨hsz, updG γ id ((g, cap) :: (bls.set i []).flatten), hp.wr n hob (fun q hq => ?_) ?_ ?_ ?_ (fun b hb => setRow_other W g b _ (fun e => hb cap (by rw [e, k1]; exact List.mem_cons_self))) (by simp) rfl rfl rfl (fun hst => ?_) ⟨hb, trivial⟩⟩
  · rw [k1]
    rcases List.mem_cons.1 hq with rfl | h
    · exact List.mem_cons_self
    · exact List.mem_cons_of_mem _ (flat_sub h)
  · have := hp.nd id _ hob
    rw [k1] at this
    exact flat_nd _ this
  · rw [k1]; rfl
  · exact rfl
  · refine .inr ⟨g, cap, _, t, bls.set i [], updG_self _ _ _, setRow_heap W g us _ t _ h2, k3, by simpa using k4, k5, by rw [List.length_set]; exact k6, fun j x hx => ?_⟩
    obtain ⟨v, b, j1, j2, j3⟩ := k7 j x hx
    have hjl := (List.getElem?_eq_some_iff.1 j2).1
    by_cases hj : j = i
    · subst hj
      refine ⟨u, [], by simp [Array.getElem?_setIfInBounds, hsz], by simp [hjl], fun _ => ⟨rfl, hst.repD hb hd⟩, fun e => absurd rfl e⟩
    · have hq : RepQ W (Frz F S γ W) c x [v] b := by
        cases hl with
        | none => exact j3
        | some q =>
          obtain ⟨k, d0⟩ := q
          exact j3.2 (fun e => hj (e.trans (hh k d0 rfl)))
      refine ⟨v, b, by rw [Array.getElem?_setIfInBounds, if_neg (Ne.symm hj)]; exact j1, by rw [List.getElem?_set, if_neg (Ne.symm hj)]; exact j2, fun e => absurd e hj, fun _ => RepQ.keep (fun a ha => hst.cell ha) (fun b hb => hst.frz hb) (fun o ho q hq => setRow_other W g q.1 _ (fun e => ?_)) hq⟩
      have hnd := hp.nd id _ hob
      rw [k1] at hnd
      simp only [List.map_cons, List.nodup_cons] at hnd
      exact hnd.1 (List.mem_map.2 ⟨q, List.mem_flatten.2 ⟨_, List.mem_of_getElem? j2, List.mem_flatten.2 ⟨o, ho, hq⟩⟩, e⟩)

theorem zrQ_rep {cell : Addr → Option Value} {G : Nat → Prop} {get : Nat → Option Ob} {γ : Gam} {q : CP} {z : D} {v : Value} (h : zrQ q z = true) (r : RepD cell G get γ z v) (W : World) (G' : Nat → Prop) : RepQ W G' q q.dflt [v] [[]] := by
  unfold zrQ at h
  split at h
  · simp only [RepD] at r
    subst r
    exact ⟨_, [], rfl, rfl, .inl ⟨rfl, rfl, none, rfl⟩⟩
  · simp only [RepD] at r
    subst r
    exact ⟨_, [], rfl, rfl, .inl ⟨rfl, rfl, none, rfl⟩⟩
  · simp only [RepD] at r
    subst r
    exact ⟨_, [], rfl, rfl, .inl ⟨rfl, rfl, rfl⟩⟩
  · cases h
theorem makeA_ok (hp : Hp F B S γ W) (hf : ¬ B fid) {t : TypeId} {l c : D} {v u : Value} {r : Res} (h : xMakeA P fid t l c = some r) (hc : r.c = true) (hl : RepD W.cell? (Frz F S γ W) S.get γ l v) (hcc : RepD W.cell? (Frz F S γ W) S.get γ c u) :
    OpOK F B S γ W fid ((do pure (.value (← Instr.makeSlice t v u)) : Sem Next).run P W) r := by
  unfold xMakeA at h
  split at h
  · rename_i el n m hu
    split at h
    · rename_i inf q hi hq
      split at h
      · rename_i z h1 h2
        split at h
        · rename_i hz
          simp only [Option.some.injEq] at h
          subst h
          obtain ⟨rfl, _⟩ := of_int hl
          obtain ⟨rfl, _⟩ := of_int hcc
          have e1 := Nat.eq_of_beq_eq_true h1
          obtain ⟨i', zv, q1, q2, q3, _, q5⟩ := zeroD_rep (cell := W.cell?) (G := Frz F S γ W) (get := S.get) (γ := γ) h2 B
          rw [hi] at q1
          simp only [Option.some.injEq] at q1
          subst q1
          simp only [RepDs] at q3
          obtain ⟨w, r0, hw, hd, rfl⟩ := q3
          have hw0 : zv.cells[0]? = some w := by
            have : zv.cells.toList[0]? = some w := by rw [hw]; rfl
            simpa using this
          change Int at n m
          simp only [Bool.and_eq_true, decide_eq_true_eq] at hc
          obtain ⟨⟨c0, c1⟩, c2⟩ := hc
          have hm0 : 0 ≤ m := Int.le_trans c0 c1
          obtain ⟨M, rfl⟩ := Int.eq_ofNat_of_zero_le hm0
          obtain ⟨N, rfl⟩ := Int.eq_ofNat_of_zero_le c0
          have c1n : N ≤ M := Int.ofNat_le.mp c1
          have c2' : M * (inf.bytes + 1 + 1) ≤ 35184372088832 := by
            have c2n : ((M * (inf.bytes + 1 + 1) : Nat) : Int) ≤ ((35184372088832 : Nat) : Int) := by
              rw [Int.natCast_mul]
              exact c2
            exact Int.ofNat_le.mp c2n
          have b1 : M * inf.bytes ≤ 35184372088832 := Nat.le_trans (Nat.mul_le_mul_left _ (by omega)) c2'
          have b2 : M ≤ 35184372088832 := Nat.le_trans (Nat.le_mul_of_pos_right _ (by omega)) c2'
          have hrun := run_make (P := P) W t el inf zv hu hi q2 .i64 .i64 (N : Int) (M : Int) c0 c1 (by rw [← Int.natCast_mul, Nat.mul_comm]; omega) (by omega)
          simp only [Int.toNat_natCast] at hrun
          have hrun' : (do pure (.value (← Instr.makeSlice t (.int .i64 (N : Int)) (.int .i64 (M : Int)))) : Sem Next).run P W = .ok (.value (.slice (some ⟨W.heap.size, 0, none⟩) (List.replicate N q.dflt).length M)) (W.alloc (.cells (madeCells zv.cells (M * inf.size)) el)) := by
            simp only [Sem.run_bind, hrun, Result.andThen_ok, Sem.run_pure, List.length_replicate]
          rw [hrun']
          simp only [Int.toNat_natCast]
          obtain ⟨k1, k2⟩ := hp.alloc hf S.nx M (madeCells zv.cells (M * inf.size)) el (.arr q (List.replicate N q.dflt) none) (W' := W.alloc (.cells (madeCells zv.cells (M * inf.size)) el)) rfl rfl rfl rfl ⟨by simp; omega, by rw [size_madeCells, e1, Nat.mul_one]; exact Nat.le_refl _, by simp; omega, fun i x hx => by
            have hlt : i < N := by
              have := (List.getElem?_eq_some_iff.1 hx).1
              simpa using this
            obtain rfl : x = q.dflt := by
              rw [List.getElem?_replicate, if_pos hlt] at hx
              simpa using hx.symm
            refine ⟨w, ?_, zrQ_rep hz hd W _⟩
            rw [made_get _ _ _ (by rw [e1]; omega) (by rw [q5]; omega), q5, e1, Nat.mod_one]
            exact hw0⟩
          refine ⟨_, _, _, rfl, .inl ⟨_, rfl, ?_⟩, k1, k2, .inr rfl⟩
          simp only [RepD]
          refine ⟨rfl, ?_⟩
          rw [show St.get ⟨S.nx, [(fid, some (.arr q (List.replicate N q.dflt) none))] ++ S.m⟩ fid = some (.arr q (List.replicate N q.dflt) none) from by
            rw [List.singleton_append, get_cons, if_pos rfl]]
          exact .inl ⟨_, _, updG_hd _ _ _, rfl⟩
        · cases h
      · cases h
    · cases h
  · cases h
theorem set_split {l : List Value} {i : Nat} {u : Value} (h : i < l.length) : l.take i ++ [u] ++ l.drop (i + [u].length) = l.set i u := by
  rw [List.set_eq_take_append_cons_drop, if_pos h]
  simp
end
end Go.XD


/- Maps. -/
namespace Go.XD

section
variable {P : Program} {F : Fm} {B : Nat → Prop} {S : St} {γ : Gam} {W : World} {fid : Nat}

/-- A new object of any kind. -/
theorem Hp.allocO {W' : World} (hp : Hp F B S γ W) (hf : ¬ B fid) (n c : Nat) (o0 : Obj) (ob : Ob) (hds : ob.dsOf = [])
    (hh : W'.heap = W.heap.push o0) (ho : W'.os = W.os) (ht : W'.tape = W.tape) (hout : W'.output = W.output) (hnew : Stp F B S γ W ⟨n, (fid, some ob) :: S.m⟩ (updG γ fid [(W.heap.size, c)]) W' → W'.heap[W.heap.size]? = some o0 → ObRep W' (Frz F ⟨n, (fid, some ob) :: S.m⟩ (updG γ fid [(W.heap.size, c)]) W') (St.get ⟨n, (fid, some ob) :: S.m⟩) (updG γ fid [(W.heap.size, c)]) fid ob) :
    Stp F B S γ W ⟨n, (fid, some ob) :: S.m⟩ (updG γ fid [(W.heap.size, c)]) W' ∧ Hp F (ins B fid) ⟨n, (fid, some ob) :: S.m⟩ (updG γ fid [(W.heap.size, c)]) W' := by
  have hget : ∀ id, St.get ⟨n, (fid, some ob) :: S.m⟩ id = if fid = id then some ob else S.get id := fun id => get_cons _ _ _ _ _
  have hblk : ∀ b, b < W.heap.size → W'.heap[b]? = W.heap[b]? := fun b hb => by
    rw [hh, Array.getElem?_push, if_neg (by omega)]
  have hsz : W'.heap.size = W.heap.size + 1 := by rw [hh, Array.size_push]
  have hst : Stp F B S γ W ⟨n, (fid, some ob) :: S.m⟩ (updG γ fid [(W.heap.size, c)]) W' := by
    refine ⟨fun id hid ob' h => ?_, ho, ht, hout, by omega, fun b hb _ => hblk b hb, fun b hb => ?_⟩
    · have hne : id ≠ fid := fun e => hf (e ▸ hid)
      rw [hget, if_neg (Ne.symm hne)] at h
      exact ⟨ob', h, like_refl _, hd_of (updG_ne _ _ hne)⟩
    · obtain ⟨id, o, c', h1, h2⟩ := hb
      rw [hget] at h1
      by_cases e : fid = id
      · subst e
        rw [updG_self] at h2
        simp only [List.mem_singleton, Prod.mk.injEq] at h2
        right
        omega
      · rw [if_neg e] at h1
        rw [updG_ne _ _ (Ne.symm e)] at h2
        exact .inl ⟨id, o, c', h1, h2⟩
  refine ⟨hst, hst.hp hp (fun id h => .inl h) ?_ ?_ ?_ ?_⟩
  · intro id o h
    rw [hget] at h
    by_cases e : fid = id
    · subst e
      rw [if_pos rfl] at h
      simp only [Option.some.injEq] at h
      subst h
      exact hnew hst (by rw [hh]; simp)
    · rw [if_neg e] at h
      exact hst.ob hp h (updG_ne _ _ (Ne.symm e)) (fun g c' hg => hblk g (hp.blt h hg))
  · intro id id' o o' g c1 c2 h h' hg hg'
    rw [hget] at h h'
    by_cases e : fid = id <;> by_cases e' : fid = id'
    · exact e.symm.trans e'
    · subst e
      rw [if_neg e'] at h'
      rw [updG_self] at hg
      rw [updG_ne _ _ (Ne.symm e')] at hg'
      have := hp.blt h' hg'
      simp only [List.mem_singleton, Prod.mk.injEq] at hg
      omega
    · subst e'
      rw [if_neg e] at h
      rw [updG_self] at hg'
      rw [updG_ne _ _ (Ne.symm e)] at hg
      have := hp.blt h hg
      simp only [List.mem_singleton, Prod.mk.injEq] at hg'
      omega
    · rw [if_neg e] at h
      rw [if_neg e'] at h'
      rw [updG_ne _ _ (Ne.symm e)] at hg
      rw [updG_ne _ _ (Ne.symm e')] at hg'
      exact hp.inj id id' o o' g c1 c2 h h' hg hg'
  · intro id o h
    rw [hget] at h
    by_cases e : fid = id
    · subst e
      rw [updG_self]
      simp
    · rw [if_neg e] at h
      rw [updG_ne _ _ (Ne.symm e)]
      exact hp.nd id o h
  · intro id o h
    rw [hget] at h
    by_cases e : fid = id
    · subst e
      rw [if_pos rfl] at h
      simp only [Option.some.injEq] at h
      subst h
      exact ⟨.inr rfl, by rw [hds]; trivial⟩
    · rw [if_neg e] at h
      have := hp.obsB id o h
      exact ⟨.inl this.1, bnds_mono (fun id h => .inl h) this.2⟩


/-- A new map. -/
theorem makeMap_ok (hp : Hp F B S γ W) (hf : ¬ B fid) (t : TypeId) (k e : Ty) :
    OpOK F B S γ W fid ((do pure (.value (← Instr.makeMap t none)) : Sem Next).run P W) ⟨true, .sf fid, [(fid, some (.mp k e [] 0))]⟩ := by
  have hrun : (do pure (.value (← Instr.makeMap t none)) : Sem Next).run P W = .ok (.value (.map (some W.heap.size))) (W.alloc (.map #[] 0)) := rfl
  obtain ⟨k1, k2⟩ := hp.allocO (W' := W.alloc (.map #[] 0)) hf S.nx 0 (.map #[] 0) (.mp k e [] 0) rfl rfl rfl rfl rfl (fun hst hb => ⟨_, W.heap.size, #[], rfl, by rw [updG_self], hb, rfl, fun i x hx => by simp at hx, List.nodup_nil⟩)
  refine ⟨_, _, _, hrun, .inl ⟨_, rfl, ?_⟩, k1, k2, .inr rfl⟩
  simp only [RepD]
  refine ⟨rfl, ?_⟩
  rw [show St.get ⟨S.nx, [(fid, some (.mp k e [] 0))] ++ S.m⟩ fid = some (.mp k e [] 0) from by
    rw [List.singleton_append, get_cons, if_pos rfl]]
  exact ⟨_, _, updG_hd _ _ _, rfl⟩

/-- A key's data and values tell each other. -/
structure KOK (P : Program) (t : TypeId) (kt : Ty) : Prop where
  law : Maps.Keyed P t
  of : ∀ {cell : Addr → Option Value} {G : Nat → Prop} {a : kt.T} {v : Value}, RepV cell G kt a v → ∃ l, keyOf P t v = some l
  val : ∀ {cell : Addr → Option Value} {G : Nat → Prop} {a : kt.T} {v w : Value}, RepV cell G kt a v → RepV cell G kt a w → v = w
  inj : ∀ {cell : Addr → Option Value} {G : Nat → Prop} {a b : kt.T} {v : Value}, RepV cell G kt a v → RepV cell G kt b v → a = b

theorem int_of {cell : Addr → Option Value} {G : Nat → Prop} {k : IntKind} {n : Int} {v : Value} (h : RepV cell G (.int k) n v) : v = .int k n ∧ fits k n := of_int (get := fun _ => none) (γ := fun _ => []) (by simp only [RepD]; exact h)
theorem str_of {cell : Addr → Option Value} {G : Nat → Prop} {s : ByteArray} {v : Value} (h : RepV cell G .str s v) : v = .string s ∧ s.size ≤ 140737488355328 := of_str (get := fun _ => none) (γ := fun _ => []) (by simp only [RepD]; exact h)
theorem int_KOK {t : TypeId} {k : IntKind} (hu : P.underlying t = some (.int k)) : KOK P t (.int k) where
  law := Maps.int_keyed hu
  of := fun {cell G a v} h => by
    obtain ⟨e, hf⟩ := int_of h
    subst e
    refine ⟨.int k a, ?_⟩
    unfold keyOf mapKey
    rw [hu]
    simp only
    rw [if_pos ⟨trivial, by unfold fits at hf; simp [Lit.wf]; exact hf⟩]
  val := fun {cell G a v w} h1 h2 => (int_of h1).1.trans (int_of h2).1.symm
  inj := fun {cell G a b v} h1 h2 => by
    have := (int_of h1).1.symm.trans (int_of h2).1
    simpa using this
theorem str_KOK {t : TypeId} (hu : P.underlying t = some .string) : KOK P t .str where
  law := Maps.string_keyed hu
  of := fun {cell G a v} h => by
    obtain ⟨e, hf⟩ := str_of h
    subst e
    refine ⟨.string (show ByteArray from a).data.toList, ?_⟩
    unfold keyOf mapKey
    rw [hu]
    simp only
    rw [if_pos (Nat.le_trans hf (by decide))]
  val := fun {cell G a v w} h1 h2 => (str_of h1).1.trans (str_of h2).1.symm
  inj := fun {cell G a b v} h1 h2 => by
    have := (str_of h1).1.symm.trans (str_of h2).1
    simpa using this

theorem repC_val {cell : Addr → Option Value} {G : Nat → Prop} : ∀ {t : Ty} (h : keyB t = true) {a : t.T} {f g : Nat → Option Value}, RepC cell G t a f → RepC cell G t a g → ∀ j, j < t.cells → f j = g j
  | .int _, _, a, f, g, r, s, j, hj => by
    simp only [Ty.cells] at hj
    obtain rfl : j = 0 := by omega
    simp only [RepC] at r s
    exact r.1.trans s.1.symm
  | .bool, _, a, f, g, r, s, j, hj => by
    simp only [Ty.cells] at hj
    obtain rfl : j = 0 := by omega
    simp only [RepC] at r s
    exact r.trans s.symm
  | .str, _, a, f, g, r, s, j, hj => by
    simp only [Ty.cells] at hj
    obtain rfl : j = 0 := by omega
    simp only [RepC] at r s
    exact r.1.trans s.1.symm
  | .st t, h, a, f, g, r, s, j, hj => repC_val (t := t) h r s j hj
  | .nil, _, a, f, g, r, s, j, hj => by simp only [Ty.cells] at hj; omega
  | .cons t u, h, a, f, g, r, s, j, hj => by
    simp only [keyB, Bool.and_eq_true] at h
    simp only [Ty.cells] at hj
    by_cases hlt : j < t.cells
    · exact repC_val h.1 r.1 s.1 j hlt
    · have := repC_val h.2 r.2 s.2 (j - t.cells) (by omega)
      simpa [show t.cells + (j - t.cells) = j from by omega] using this
theorem repC_inj {cell : Addr → Option Value} {G : Nat → Prop} : ∀ {t : Ty} (h : keyB t = true) {a b : t.T} {f : Nat → Option Value}, RepC cell G t a f → RepC cell G t b f → a = b
  | .int _, _, a, b, f, r, s => by
    simp only [RepC] at r s
    have := r.1.symm.trans s.1
    simpa using this
  | .bool, _, a, b, f, r, s => by
    simp only [RepC] at r s
    have := r.symm.trans s
    simpa using this
  | .str, _, a, b, f, r, s => by
    simp only [RepC] at r s
    have := r.1.symm.trans s.1
    simpa using this
  | .st t, h, a, b, f, r, s => repC_inj (t := t) h r s
  | .nil, _, a, b, f, r, s => rfl
  | .cons t u, h, a, b, f, r, s => by
    simp only [keyB, Bool.and_eq_true] at h
    exact Prod.ext (repC_inj h.1 r.1 s.1) (repC_inj h.2 r.2 s.2)
theorem repV_val {cell : Addr → Option Value} {G : Nat → Prop} {t : Ty} (h : keyB t = true) (h0 : t.isSt = true ∨ 0 < t.cells) {a : t.T} {v w : Value} (r : RepV cell G t a v) (s : RepV cell G t a w) : v = w := by
  unfold RepV at r s
  cases ht : t.isSt with
  | true =>
    rw [if_pos ht] at r s
    obtain ⟨cs, rfl, h1, h2⟩ := r
    obtain ⟨cs', rfl, h3, h4⟩ := s
    have : cs = cs' := by
      apply Array.ext_getElem?
      intro j
      by_cases hj : j < t.cells
      · exact repC_val h h2 h4 j hj
      · rw [Array.getElem?_eq_none (by omega), Array.getElem?_eq_none (by omega)]
    rw [this]
  | false =>
    rw [if_neg (by rw [ht]; exact Bool.false_ne_true)] at r s
    have := repC_val h r s 0 (by rcases h0 with h0 | h0; · rw [ht] at h0; cases h0
                                 · exact h0)
    simpa using this
theorem repV_inj {cell : Addr → Option Value} {G : Nat → Prop} {t : Ty} (h : keyB t = true) {a b : t.T} {v : Value} (r : RepV cell G t a v) (s : RepV cell G t b v) : a = b := by
  unfold RepV at r s
  cases ht : t.isSt with
  | true =>
    rw [if_pos ht] at r s
    obtain ⟨cs, rfl, h1, h2⟩ := r
    obtain ⟨cs', e, h3, h4⟩ := s
    simp only [Value.agg.injEq] at e
    subst e
    exact repC_inj h h2 h4
  | false =>
    rw [if_neg (by rw [ht]; exact Bool.false_ne_true)] at r s
    exact repC_inj h r s
/-- A key is found where its datum stands. -/
theorem find_ok {kt : TypeId} {k e : Ty} (K : KOK P kt k) {q : k.T → k.T → Bool} (hq : ∀ a b, q a b = true ↔ a = b) {G : Nat → Prop} {es : List (k.T × e.T × Nat)} {arr : Array MapEntry} (hm : RepM W.cell? G k e es arr) {a : k.T} {v : Value} (ha : RepV W.cell? G k a v) :
    match kIdx q a es with
    | none => (Instr.findKey kt v arr.toList).run P W = .ok none W
    | some i => ∃ m, arr[i]? = some m ∧ (Instr.findKey kt v arr.toList).run P W = .ok (some (i, m.val)) W ∧ m.key = v := by
  obtain ⟨l, hl⟩ := K.of ha
  have hlen := hm.1
  have hnd := hm.2.2
  have hent : ∀ (j : Nat) (m : MapEntry), arr[j]? = some m → ∃ x, es[j]? = some x ∧ RepV W.cell? G k x.1 m.key := fun j m hj => by
    have hjl := (Array.getElem?_eq_some_iff.1 hj).1
    obtain ⟨m', h1, h2, _⟩ := hm.2.1 j _ (List.getElem?_eq_getElem (by omega))
    rw [hj] at h1
    simp only [Option.some.injEq] at h1
    subst h1
    exact ⟨_, List.getElem?_eq_getElem (by omega), h2⟩
  have hkeys : ∀ m ∈ arr.toList, ∃ l, keyOf P kt m.key = some l := fun m hmem => by
    obtain ⟨j, hj⟩ := List.getElem?_of_mem hmem
    obtain ⟨x, _, h2⟩ := hent j m (by simpa using hj)
    exact K.of h2
  rcases K.law.find W hl arr.toList hkeys with ⟨h1, h2⟩ | ⟨j, m, h1, h2, h3⟩
  · have hn : kIdx q a es = none := by
      unfold kIdx
      rw [List.findIdx?_eq_none_iff]
      intro x hx
      rw [Bool.eq_false_iff]
      intro hqx
      have hxa := (hq _ _).1 hqx
      obtain ⟨j, hj⟩ := List.getElem?_of_mem hx
      obtain ⟨m, k1, k2, _⟩ := hm.2.1 j x hj
      refine h2 m (by
        have : arr.toList[j]? = some m := by simpa using k1
        exact List.mem_of_getElem? this) ?_
      exact K.val k2 (hxa ▸ ha)
    rw [hn]
    exact h1
  · have hj : arr[j]? = some m := by simpa using h2
    obtain ⟨x, k1, k2⟩ := hent j m hj
    have hxa : x.1 = a := K.inj (h3 ▸ k2) ha
    have hs : kIdx q a es = some j := by
      unfold kIdx
      have hjl := (List.getElem?_eq_some_iff.1 k1).1
      have hxj : es[j] = x := (List.getElem?_eq_some_iff.1 k1).2
      rw [List.findIdx?_eq_some_iff_getElem]
      refine ⟨hjl, by rw [hxj]; exact (hq _ _).2 hxa, fun i hi => ?_⟩
      intro hqi
      have hia := (hq _ _).1 hqi
      have hil : i < (es.map (·.1)).length := by simp; omega
      have hjl' : j < (es.map (·.1)).length := by simpa using hjl
      have : (es.map (·.1))[i] = (es.map (·.1))[j] := by simp [hia, hxj, hxa]
      have hp := List.pairwise_iff_getElem.1 hnd i j hil hjl' hi
      exact hp this
    rw [hs]
    exact ⟨m, hj, h1, h3⟩
end
end Go.XD


/- Structs as keys. -/
namespace Go.XD

section
variable {P : Program}
theorem leafKey_cells {t : TypeId} {a : Ty} (h : leafKey P t a = true) : a.cells = 1 := by
  cases a <;> first | rfl | simp [leafKey] at h
theorem leafKey_keyB {t : TypeId} {a : Ty} (h : leafKey P t a = true) : keyB a = true := by
  cases a <;> first | rfl | simp [leafKey] at h
theorem leafKey_lit {cell : Addr → Option Value} {G : Nat → Prop} {t : TypeId} {a : Ty} (h : leafKey P t a = true) {x : a.T} {f : Nat → Option Value} (r : RepC cell G a x f) (d : Nat) : ∃ v ls, f 0 = some v ∧ P.keyLits (d + 1) t [v] = some ls := by
  cases a with
  | int k =>
    simp only [leafKey] at h
    split at h
    · rename_i k' hu
      simp only [decide_eq_true_eq] at h
      subst h
      simp only [RepC] at r
      refine ⟨_, [.int k' x], r.1, ?_⟩
      unfold Program.keyLits
      rw [hu]
      simp only
      rw [if_pos ⟨trivial, by have := r.2; unfold fits at this; simp [Lit.wf]; exact this⟩]
    · cases h
  | bool =>
    simp only [leafKey] at h
    split at h
    · rename_i hu
      simp only [RepC] at r
      refine ⟨_, [.bool x], r, ?_⟩
      unfold Program.keyLits
      rw [hu]
    · cases h
  | str =>
    simp only [leafKey] at h
    split at h
    · rename_i hu
      simp only [RepC] at r
      refine ⟨_, [.string (show ByteArray from x).data.toList], r.1, ?_⟩
      unfold Program.keyLits
      rw [hu]
      simp only
      rw [if_pos (Nat.le_trans r.2 (by decide))]
    · cases h
  | _ => simp [leafKey] at h
theorem keyFs_keyB : ∀ {fs : List Field} {off : Nat} {f : Ty}, keyFs P fs off f = true → keyB f = true
  | [], _, .nil, _ => rfl
  | fd :: r, off, .cons a b, h => by
    simp only [keyFs, Bool.and_eq_true] at h
    simp only [keyB, Bool.and_eq_true]
    exact ⟨leafKey_keyB h.1.2, keyFs_keyB h.2⟩
  | [], _, .cons _ _, h => by simp [keyFs] at h
  | _ :: _, _, .nil, h => by simp [keyFs] at h
  | [], _, .int _, h => by simp [keyFs] at h
  | [], _, .bool, h => by simp [keyFs] at h
  | [], _, .str, h => by simp [keyFs] at h
  | [], _, .lst _, h => by simp [keyFs] at h
  | [], _, .ptr _, h => by simp [keyFs] at h
  | [], _, .st _, h => by simp [keyFs] at h
  | _ :: _, _, .int _, h => by simp [keyFs] at h
  | _ :: _, _, .bool, h => by simp [keyFs] at h
  | _ :: _, _, .str, h => by simp [keyFs] at h
  | _ :: _, _, .lst _, h => by simp [keyFs] at h
  | _ :: _, _, .ptr _, h => by simp [keyFs] at h
  | _ :: _, _, .st _, h => by simp [keyFs] at h
theorem keyFs_lits {cell : Addr → Option Value} {G : Nat → Prop} {cs : List Value} (d : Nat) : ∀ {fs : List Field} {off : Nat} {f : Ty}, keyFs P fs off f = true → ∀ {x : f.T}, RepC cell G f x (fun j => cs[off + j]?) →
    ∃ ls, (fs.mapM fun fd => P.keyLits (d + 1) fd.type ((cs.drop fd.offset).take (P.cellsOf fd.type))) = some ls
  | [], off, f, h, x, r => ⟨[], by simp⟩
  | fd :: fr, off, .cons a b, h, x, r => by
    simp only [keyFs, Bool.and_eq_true] at h
    obtain ⟨⟨⟨h1, h2⟩, h3⟩, h4⟩ := h
    have e1 := Nat.eq_of_beq_eq_true h1
    have e2 := Nat.eq_of_beq_eq_true h2
    obtain ⟨v, l1, k1, k2⟩ := leafKey_lit h3 r.1 d
    have hc := leafKey_cells h3
    obtain ⟨ls, k3⟩ := keyFs_lits (cell := cell) (G := G) (cs := cs) d h4 (x := x.2) (RepC.congr (fun j hj => by rw [hc, Nat.add_assoc]) r.2)
    have hv : (cs.drop fd.offset).take (P.cellsOf fd.type) = [v] := by
      rw [e1, e2]
      simp only [Nat.add_zero] at k1
      have hl := (List.getElem?_eq_some_iff.1 k1)
      rw [List.drop_eq_getElem_cons hl.1, hl.2]
      rfl
    exact ⟨l1 :: ls, by simp only [List.mapM_cons, hv, k2, k3, Option.bind_eq_bind, Option.bind_some]; rfl⟩
  | _ :: _, _, .nil, h, _, _ => by simp [keyFs] at h
  | _ :: _, _, .int _, h, _, _ => by simp [keyFs] at h
  | _ :: _, _, .bool, h, _, _ => by simp [keyFs] at h
  | _ :: _, _, .str, h, _, _ => by simp [keyFs] at h
  | _ :: _, _, .lst _, h, _, _ => by simp [keyFs] at h
  | _ :: _, _, .ptr _, h, _, _ => by simp [keyFs] at h
  | _ :: _, _, .st _, h, _, _ => by simp [keyFs] at h

theorem kOK_ok {t : TypeId} {kt : Ty} (h : kOK P t kt = true) : KOK P t kt := by
  cases kt with
  | int k =>
    simp only [kOK, leafKey] at h
    split at h
    · rename_i k' hu
      simp only [decide_eq_true_eq] at h
      subst h
      exact int_KOK hu
    · cases h
  | str =>
    simp only [kOK, leafKey] at h
    split at h
    · rename_i hu
      exact str_KOK hu
    · cases h
  | st f =>
    simp only [kOK] at h
    split at h
    · rename_i fs hu
      simp only [Bool.and_eq_true] at h
      obtain ⟨⟨⟨⟨⟨⟨h1, h2⟩, h3⟩, h4⟩, h5⟩, h6⟩, h7⟩ := h
      have hkb : keyB (.st f) = true := (keyFs_keyB h1 : keyB f = true)
      have e2 := Nat.eq_of_beq_eq_true h2
      refine ⟨Maps.Keyed.of_law (deep_law (m := 3) (by decide) h5 h6 (by rw [hu])), fun {cell G a v} r => ?_, fun {cell G a v w} r s => repV_val hkb (.inl rfl) r s, fun {cell G a b v} r s => repV_inj hkb r s⟩
      unfold RepV at r
      rw [if_pos (show (Ty.st f).isSt = true from rfl)] at r
      obtain ⟨cs, rfl, r1, r2⟩ := r
      simp only [Ty.cells] at r1
      have hpos : ∃ n, P.types.size = n + 1 := ⟨P.types.size - 1, by have := Nat.le_of_ble_eq_true h7; omega⟩
      obtain ⟨n, hn⟩ := hpos
      obtain ⟨ls, hls⟩ := keyFs_lits (cell := cell) (G := G) (cs := cs.toList) n h1 (x := a) (RepC.congr (fun j hj => by simp) r2)
      refine ⟨.string (keyBytes ls.flatten), ?_⟩
      unfold keyOf
      rw [hu]
      simp only
      have hf : (P.keyType t && (Value.agg cs).formed P t) = true := by
        rw [Bool.and_eq_true]
        refine ⟨h4, ?_⟩
        simp only [Value.formed, hu, beq_iff_eq]
        omega
      have hc : cs.toList.length = P.cellsOf t ∧ (fs.all fun f => f.name != "_") = true := ⟨by simp; omega, h3⟩
      have hk : P.keyLits (n + 1 + 1) t cs.toList = some ls.flatten := by
        unfold Program.keyLits
        simp only [hu, if_pos hc, hls, Option.map_some]
      rw [if_pos hf, hn]
      simp only [Value.cells]
      rw [hk]
      rfl
    · cases h
  | _ => simp [kOK] at h
end
end Go.XD


/- Operations at maps. -/
namespace Go.XD

theorem kOK_keyB {P : Program} {t : TypeId} {k : Ty} (h : kOK P t k = true) : keyB k = true := by
  cases k with
  | int k => rfl
  | str => rfl
  | st f =>
    simp only [kOK] at h
    split at h
    · simp only [Bool.and_eq_true] at h
      exact (keyFs_keyB h.1.1.1.1.1.1 : keyB f = true)
    · cases h
  | _ => simp [kOK] at h

theorem mpB_key {P : Program} {t : TypeId} {k e : Ty} (h : mpB P t k e = true) : keyB k = true := by
  unfold mpB mpTy at h
  split at h
  · rename_i k' e' hm
    rw [Bool.and_eq_true, decide_eq_true_eq, decide_eq_true_eq] at h
    obtain ⟨rfl, rfl⟩ := h
    split at hm
    · split at hm
      · split at hm
        · rename_i hb
          simp only [Option.some.injEq, Prod.mk.injEq] at hm
          obtain ⟨rfl, rfl⟩ := hm
          rw [Bool.and_eq_true] at hb
          exact kOK_keyB hb.1
        · cases hm
      · cases hm
    · cases hm
  · cases h

section
variable {P : Program} {F : Fm} {B : Nat → Prop} {S : St} {γ : Gam} {W : World} {fid : Nat}

theorem conv0 (hp : Hp F B S γ W) {t : Ty} {d : D} {x : t.T} {v : Value} (h : conv (fun _ => none) t d = some x) (r : RepD W.cell? (Frz F S γ W) S.get γ d v) : RepV W.cell? (Frz F S γ W) t x v :=
  conv_rep (look := fun _ => none) (fun id ob e => by cases e) hp (fun _ h => h) h r (fun id _ e => absurd rfl e)
theorem mpB_ok (hp : Hp F B S γ W) {t : TypeId} {k e : Ty} (h : mpB P t k e = true) : ∃ kt et, P.underlying t = some (.map kt et) ∧ KOK P kt k ∧ keyB k = true ∧
    ∃ z, (zeroValue et).run P W = .ok z W ∧ RepV W.cell? (Frz F S γ W) e e.dflt z := by
  unfold mpB mpTy at h
  split at h
  · rename_i k' e' hm
    rw [Bool.and_eq_true, decide_eq_true_eq, decide_eq_true_eq] at h
    obtain ⟨rfl, rfl⟩ := h
    split at hm
    · rename_i kt et hu
      split at hm
      · rename_i k2 e2 h1 h2
        split at hm
        · rename_i hb
          simp only [Option.some.injEq, Prod.mk.injEq] at hm
          obtain ⟨rfl, rfl⟩ := hm
          rw [Bool.and_eq_true] at hb
          obtain ⟨hb1, hb2⟩ := hb
          refine ⟨kt, et, hu, kOK_ok hb1, kOK_keyB hb1, ?_⟩
          unfold zrB at hb2
          split at hb2
          · rename_i i hi
            split at hb2
            · rename_i z hz
              split at hb2
              · rename_i y hy
                simp only [Bool.and_eq_true] at hb2
                have hyd := (eqT_iff hb2.1.2 _ _).1 hb2.2
                subst hyd
                refine ⟨z, ?_, conv0 hp hy (ofConst_rep z)⟩
                unfold zeroValue
                simp [run_typeInfo W hi, hz, Result.andThen]
              · cases hb2
            · cases hb2
          · cases hb2
        · cases hm
      · cases hm
    · cases hm
  · cases h
theorem mp_at (hp : Hp F B S γ W) {id : Nat} {k e : Ty} {es : List (k.T × e.T × Nat)} {n : Nat} {v : Value} (hob : S.get id = some (.mp k e es n)) (hv : RepD W.cell? (Frz F S γ W) S.get γ (.sf id) v) :
    ∃ g arr, γ id = [(g, 0)] ∧ v = .map (some g) ∧ W.heap[g]? = some (.map arr n) ∧ RepM W.cell? (Frz F S γ W) k e es arr := by
  obtain ⟨v', g, arr, h1, h2, h3, h4⟩ := hp.obs id _ hob
  simp only [List.cons.injEq, and_true] at h1 h2
  simp only [RepD] at hv
  rw [hob] at hv
  obtain ⟨_, g', c, e1, e2⟩ := hv
  have : hdG γ id = some (g, 0) := by unfold hdG; rw [h2]; rfl
  rw [this] at e1
  simp only [Option.some.injEq, Prod.mk.injEq] at e1
  obtain ⟨rfl, rfl⟩ := e1
  exact ⟨g, arr, h2, e2, h3, h4⟩
theorem mp_wr (hp : Hp F B S γ W) {id : Nat} {k e : Ty} {es es' : List (k.T × e.T × Nat)} {n n' g : Nat} {arr arr' : Array MapEntry} (hob : S.get id = some (.mp k e es n)) (hγ : γ id = [(g, 0)]) (hb : W.heap[g]? = some (.map arr n)) (hm : RepM W.cell? (Frz F S γ W) k e es' arr') :
    ∃ γ', Stp F B S γ W ⟨S.nx, [(id, some (.mp k e es' n'))] ++ S.m⟩ γ' { W with heap := W.heap.setIfInBounds g (.map arr' n') } ∧ Hp F (ins B fid) ⟨S.nx, [(id, some (.mp k e es' n'))] ++ S.m⟩ γ' { W with heap := W.heap.setIfInBounds g (.map arr' n') } := by
  have hlt : g < W.heap.size := by
    rcases Nat.lt_or_ge g W.heap.size with h | h
    · exact h
    · rw [Array.getElem?_eq_none h] at hb; cases hb
  have := hp.wr S.nx (W' := { W with heap := W.heap.setIfInBounds g (.map arr' n') }) (ob' := .mp k e es' n') (L := γ id) hob (fun _ h => h) (hp.nd id _ hob) rfl trivial (fun b hb' => by
    simp only
    rw [Array.getElem?_setIfInBounds, if_neg]
    rintro rfl
    exact hb' 0 (by rw [hγ]; exact List.mem_singleton.2 rfl)) (by simp) rfl rfl rfl (fun hst => ⟨.map (some g), g, arr', rfl, by rw [updG_self, hγ], by simp [hlt], hm.mono (fun a ha => hst.cell ha) (fun b hb => hst.frz hb)⟩) trivial
  exact ⟨_, this.1, this.2.mono fun _ h => .inl h⟩

theorem lookup_ok (hp : Hp F B S γ W) {ev : Operand → D} {ρ : Operand → Value} (hev : ∀ x, RepD W.cell? (Frz F S γ W) S.get γ (ev x) (ρ x) ∧ (ev x).bnd B) {t : TypeId} {m x : Operand} {ok : Bool} {r : Res} {o : Oper} (hop : o.op = .lookup t m x ok) (h : arE P S.get fid ev o = some r) :
    OpOK F B S γ W fid ((do pure (.value (← Instr.lookup t (ρ m) (ρ x) ok)) : Sem Next).run P W) r := by
  unfold arE at h
  rw [hop] at h
  simp only at h
  split at h
  · rename_i id hm
    split at h
    · rename_i k e es n hob
      split at h
      · rename_i a hB ha
        simp only [Option.some.injEq] at h
        subst h
        obtain ⟨kt, et, hu, K, hkb, z, hz, hzr⟩ := mpB_ok hp hB
        have h1 := (hev m).1
        rw [hm] at h1
        obtain ⟨g, arr, q1, q2, q3, q4⟩ := mp_at hp hob h1
        have hk := conv0 hp ha (hev x).1
        obtain ⟨l, hl⟩ := K.of hk
        have hf := find_ok (P := P) (W := W) K (fun a b => eqT_iff hkb a b) q4 hk
        have hcon : ∀ (y : e.T) (b : Bool) (w : Value), RepV W.cell? (Frz F S γ W) e y w → (Instr.lookup t (ρ m) (ρ x) ok).run P W = .ok (if ok then .tuple #[w, .bool b] else w) W →
            OpOK F B S γ W fid ((do pure (.value (← Instr.lookup t (ρ m) (ρ x) ok)) : Sem Next).run P W) ⟨true, cond ok (.tup [.fz e y, .fz .bool b]) (.fz e y), []⟩ := fun y b w hw hrun => by
          simp only [Sem.run_bind, hrun, Result.andThen_ok, Sem.run_pure]
          cases ok with
          | true =>
            refine OpOK.same hp ?_ ⟨trivial, trivial, trivial⟩
            simp only [cond_true, RepD, RepDs]
            exact ⟨[w, .bool b], rfl, w, _, rfl, hw, .bool b, [], rfl, (RepV.leaf rfl).2 rfl, rfl⟩
          | false =>
            refine OpOK.same hp ?_ trivial
            simpa [RepD] using hw
        cases hi : kIdx (eqT k) a es with
        | none =>
          rw [hi] at hf
          simp only at hf
          have e1 : mGet (eqT k) e.dflt a es = e.dflt := by unfold mGet; rw [hi]
          rw [e1]
          refine hcon _ _ z hzr ?_
          rw [q2]
          simp [Instr.lookup, run_underlying hu, MapKept.run_getObj_map q3, K.law.check W _ hl, hf, hz, Result.andThen]
        | some i =>
          rw [hi] at hf
          simp only at hf
          obtain ⟨me, f1, f2, f3⟩ := hf
          have hlt : i < es.length := by
            rw [← q4.1]
            rcases Nat.lt_or_ge i arr.size with h | h
            · exact h
            · rw [Array.getElem?_eq_none h] at f1; cases f1
          obtain ⟨m', g1, g2, g3, g4⟩ := q4.2.1 i _ (getD_of (d := (a, e.dflt, 0)) hlt)
          rw [f1] at g1
          cases g1
          have e1 : mGet (eqT k) e.dflt a es = (es.getD i (a, e.dflt, 0)).2.1 := by unfold mGet; rw [hi]
          rw [e1]
          refine hcon _ _ me.val g3 ?_
          rw [q2]
          simp [Instr.lookup, run_underlying hu, MapKept.run_getObj_map q3, K.law.check W _ hl, f2, Result.andThen]
      · cases h
    · cases h
  · cases h

theorem RepM.push {cell : Addr → Option Value} {G : Nat → Prop} {k e : Ty} (hkb : keyB k = true) {es : List (k.T × e.T × Nat)} {arr : Array MapEntry} (hm : RepM cell G k e es arr) {a : k.T} {y : e.T} {n : Nat} {u w : Value} (hi : kIdx (eqT k) a es = none) (ha : RepV cell G k a u) (hy : RepV cell G e y w) :
    RepM cell G k e (es ++ [(a, y, n)]) (arr.push { key := u, val := w, born := n }) := by
  refine ⟨by simp [hm.1], fun i x hx => ?_, ?_⟩
  · by_cases hlt : i < es.length
    · rw [List.getElem?_append_left hlt] at hx
      obtain ⟨m, h1, h2⟩ := hm.2.1 i x hx
      exact ⟨m, by rw [Array.getElem?_push, if_neg (by rw [hm.1]; omega)]; exact h1, h2⟩
    · rw [List.getElem?_append_right (by omega)] at hx
      obtain ⟨h1, h2⟩ := List.getElem?_eq_some_iff.1 hx
      simp only [List.length_singleton] at h1
      obtain rfl : i = es.length := by omega
      simp at h2
      subst h2
      exact ⟨_, by rw [Array.getElem?_push, if_pos hm.1.symm], ha, hy, rfl⟩
  · rw [List.map_append, List.nodup_append]
    refine ⟨hm.2.2, by simp, fun x hx y hy e => ?_⟩
    simp only [List.map_cons, List.map_nil, List.mem_singleton] at hy
    subst hy
    obtain ⟨q, hq, rfl⟩ := List.mem_map.1 hx
    have := List.findIdx?_eq_none_iff.1 hi q hq
    rw [(eqT_iff hkb _ _).2 e] at this
    cases this
theorem RepM.modify {cell : Addr → Option Value} {G : Nat → Prop} {k e : Ty} {es : List (k.T × e.T × Nat)} {arr : Array MapEntry} (hm : RepM cell G k e es arr) {i : Nat} {f : MapEntry → MapEntry} {y : e.T} {w : Value} (hf : ∀ m, arr[i]? = some m → (f m).key = m.key ∧ (f m).val = w ∧ (f m).born = m.born) (hy : RepV cell G e y w) :
    RepM cell G k e (es.modify i fun x => (x.1, y, x.2.2)) (arr.modify i f) := by
  refine ⟨by simp [hm.1], fun j x hx => ?_, ?_⟩
  · rw [List.getElem?_modify] at hx
    cases hj : es[j]? with
    | none => rw [hj] at hx; simp at hx
    | some x0 =>
      rw [hj] at hx
      simp only [Option.map_eq_map, Option.map_some, Option.some.injEq] at hx
      subst hx
      obtain ⟨m, h1, h2, h3, h4⟩ := hm.2.1 j x0 hj
      by_cases e : i = j
      · subst e
        rw [if_pos rfl]
        obtain ⟨f1, f2, f3⟩ := hf m h1
        exact ⟨f m, by simp [Array.getElem?_modify, h1], by rw [f1]; exact h2, by rw [f2]; exact hy, by rw [f3]; exact h4⟩
      · rw [if_neg e]
        exact ⟨m, by simp [Array.getElem?_modify, h1, e], h2, h3, h4⟩
  · have : (es.modify i fun x => (x.1, y, x.2.2)).map (fun x => x.1) = es.map (fun x => x.1) := by
      apply List.ext_getElem?
      intro j
      simp only [List.getElem?_map, List.getElem?_modify]
      cases es[j]? with
      | none => rfl
      | some x => simp only [Option.map_eq_map, Option.map_some]; split <;> rfl
    rw [this]
    exact hm.2.2
theorem modify_id {arr : Array MapEntry} {i : Nat} {f : MapEntry → MapEntry} (hf : ∀ m, arr[i]? = some m → f m = m) : arr.modify i f = arr := by
  apply Array.ext_getElem?
  intro j
  rw [Array.getElem?_modify]
  split
  · rename_i e
    subst e
    cases h : arr[i]? with
    | none => rfl
    | some m => simp [hf m h]
  · rfl
theorem mapEntry_ok (hp : Hp F B S γ W) {ev : Operand → D} {ρ : Operand → Value} (hev : ∀ x, RepD W.cell? (Frz F S γ W) S.get γ (ev x) (ρ x) ∧ (ev x).bnd B) {t : TypeId} {m x : Operand} {r : Res} {o : Oper} (hop : o.op = .mapEntry t m x) (h : arE P S.get fid ev o = some r) :
    OpOK F B S γ W fid ((do pure (.value (← Instr.mapEntry t (ρ m) (ρ x))) : Sem Next).run P W) r := by
  unfold arE at h
  rw [hop] at h
  simp only at h
  split at h
  · rename_i id hm
    split at h
    · rename_i k e es n hob
      split at h
      · rename_i a hB ha
        simp only [Option.some.injEq] at h
        subst h
        obtain ⟨kt, et, hu, K, hkb, z, hz, hzr⟩ := mpB_ok hp hB
        have h1 := (hev m).1
        rw [hm] at h1
        obtain ⟨g, arr, q1, q2, q3, q4⟩ := mp_at hp hob h1
        have hk := conv0 hp ha (hev x).1
        obtain ⟨l, hl⟩ := K.of hk
        have hf := find_ok (P := P) (W := W) K (fun a b => eqT_iff hkb a b) q4 hk
        cases hi : kIdx (eqT k) a es with
        | none =>
          rw [hi] at hf
          simp only at hf
          have e1 : mGet (eqT k) e.dflt a es = e.dflt := by unfold mGet; rw [hi]
          have e2 : mBorn (eqT k) e.dflt a es n = n := by unfold mBorn; rw [hi]
          have e3 : mEnt (eqT k) e.dflt a es n = es ++ [(a, e.dflt, n)] := by unfold mEnt; rw [hi]
          have e4 : mClk (eqT k) a es n = n + 1 := by unfold mClk; rw [hi]
          rw [e1, e2, e3, e4]
          obtain ⟨γ', s1, s2⟩ := mp_wr (fid := fid) (n' := n + 1) hp hob q1 q3 (q4.push hkb (n := n) hi hk hzr)
          have hrun : (Instr.mapEntry t (ρ m) (ρ x)).run P W = .ok (.tuple #[z, .int .i64 (n : Int)]) { W with heap := W.heap.setIfInBounds g (.map (arr.push { key := ρ x, val := z, born := n }) (n + 1)) } := by
            rw [q2]
            simp [Instr.mapEntry, run_underlying hu, MapKept.run_getObj_map q3, K.law.check W _ hl, hf, hz, MapKept.run_setObj_map _ q3, Result.andThen, goInt]
          simp only [Sem.run_bind, hrun, Result.andThen_ok, Sem.run_pure]
          refine ⟨_, _, γ', rfl, .inl ⟨_, rfl, ?_⟩, s1, s2, ⟨trivial, trivial, trivial⟩⟩
          simp only [RepD, RepDs]
          exact ⟨[z, .int .i64 (n : Int)], rfl, z, _, rfl, hzr.mono (fun a ha => s1.cell ha) (fun b hb => s1.frz hb), _, [], rfl, rfl, rfl⟩
        | some i =>
          rw [hi] at hf
          simp only at hf
          obtain ⟨me, f1, f2, f3⟩ := hf
          have hlt : i < es.length := by
            rw [← q4.1]
            rcases Nat.lt_or_ge i arr.size with h | h
            · exact h
            · rw [Array.getElem?_eq_none h] at f1; cases f1
          obtain ⟨m', g1, g2, g3, g4⟩ := q4.2.1 i _ (getD_of (d := (a, e.dflt, 0)) hlt)
          rw [f1] at g1
          cases g1
          have e1 : mGet (eqT k) e.dflt a es = (es.getD i (a, e.dflt, 0)).2.1 := by unfold mGet; rw [hi]
          have e2 : mBorn (eqT k) e.dflt a es n = me.born := by unfold mBorn; rw [hi]; exact g4.symm
          have e3 : mEnt (eqT k) e.dflt a es n = es := by unfold mEnt; rw [hi]
          have e4 : mClk (eqT k) a es n = n := by unfold mClk; rw [hi]
          rw [e1, e2, e3, e4]
          obtain ⟨γ', s1, s2⟩ := mp_wr (fid := fid) (n' := n) hp hob q1 q3 q4
          have hmod : (arr.modify i fun e => { e with key := ρ x }) = arr := modify_id fun m hm => by
            rw [f1] at hm
            cases hm
            rw [← f3]
          have hrun : (Instr.mapEntry t (ρ m) (ρ x)).run P W = .ok (.tuple #[me.val, .int .i64 (me.born : Int)]) { W with heap := W.heap.setIfInBounds g (.map arr n) } := by
            rw [q2]
            simp [Instr.mapEntry, run_underlying hu, MapKept.run_getObj_map q3, K.law.check W _ hl, f2, f1, f3, K.law.stays W hl, MapKept.run_setObj_map _ q3, Result.andThen, goInt, hmod]
          simp only [Sem.run_bind, hrun, Result.andThen_ok, Sem.run_pure]
          refine ⟨_, _, γ', rfl, .inl ⟨_, rfl, ?_⟩, s1, s2, ⟨trivial, trivial, trivial⟩⟩
          simp only [RepD, RepDs]
          exact ⟨[me.val, .int .i64 (me.born : Int)], rfl, me.val, _, rfl, g3.mono (fun a ha => s1.cell ha) (fun b hb => s1.frz hb), _, [], rfl, rfl, rfl⟩
      · cases h
    · cases h
  · cases h
theorem mapUpdate_ok (hp : Hp F B S γ W) {ev : Operand → D} {ρ : Operand → Value} (hev : ∀ x, RepD W.cell? (Frz F S γ W) S.get γ (ev x) (ρ x) ∧ (ev x).bnd B) {t : TypeId} {m x y : Operand} {r : Res} {o : Oper} (hop : o.op = .mapUpdate t m x y) (h : arE P S.get fid ev o = some r) :
    OpOK F B S γ W fid ((do Instr.mapUpdate t (ρ m) (ρ x) (ρ y); pure .skip : Sem Next).run P W) r := by
  unfold arE at h
  rw [hop] at h
  simp only at h
  split at h
  · rename_i id hm
    split at h
    · rename_i k e es n hob
      split at h
      · rename_i a v hB ha hv
        simp only [Option.some.injEq] at h
        subst h
        obtain ⟨kt, et, hu, K, hkb, z, hz, hzr⟩ := mpB_ok hp hB
        have h1 := (hev m).1
        rw [hm] at h1
        obtain ⟨g, arr, q1, q2, q3, q4⟩ := mp_at hp hob h1
        have hk := conv0 hp ha (hev x).1
        have hy := conv0 hp hv (hev y).1
        obtain ⟨l, hl⟩ := K.of hk
        have hf := find_ok (P := P) (W := W) K (fun a b => eqT_iff hkb a b) q4 hk
        cases hi : kIdx (eqT k) a es with
        | none =>
          rw [hi] at hf
          simp only at hf
          have e3 : mUpd (eqT k) a v es n = es ++ [(a, v, n)] := by unfold mUpd; rw [hi]
          have e4 : mClk (eqT k) a es n = n + 1 := by unfold mClk; rw [hi]
          rw [e3, e4]
          obtain ⟨γ', s1, s2⟩ := mp_wr (fid := fid) (n' := n + 1) hp hob q1 q3 (q4.push hkb (n := n) hi hk hy)
          have hrun : (Instr.mapUpdate t (ρ m) (ρ x) (ρ y)).run P W = .ok () { W with heap := W.heap.setIfInBounds g (.map (arr.push { key := ρ x, val := ρ y, born := n }) (n + 1)) } := by
            rw [q2]
            simp [Instr.mapUpdate, run_underlying hu, MapKept.run_getObj_map q3, K.law.check W _ hl, hf, MapKept.run_setObj_map _ q3, Result.andThen]
          simp only [Sem.run_bind, hrun, Result.andThen_ok, Sem.run_pure]
          exact ⟨_, _, γ', rfl, .inr ⟨rfl, rfl⟩, s1, s2, trivial⟩
        | some i =>
          rw [hi] at hf
          simp only at hf
          obtain ⟨me, f1, f2, f3⟩ := hf
          have e3 : mUpd (eqT k) a v es n = es.modify i fun x => (x.1, v, x.2.2) := by unfold mUpd; rw [hi]
          have e4 : mClk (eqT k) a es n = n := by unfold mClk; rw [hi]
          rw [e3, e4]
          obtain ⟨γ', s1, s2⟩ := mp_wr (fid := fid) (n' := n) hp hob q1 q3 (q4.modify (f := fun e => { e with key := ρ x, val := ρ y }) (fun m hm => by
            rw [f1] at hm
            cases hm
            exact ⟨f3.symm, rfl, rfl⟩) hy)
          have hrun : (Instr.mapUpdate t (ρ m) (ρ x) (ρ y)).run P W = .ok () { W with heap := W.heap.setIfInBounds g (.map (arr.modify i fun e => { e with key := ρ x, val := ρ y }) n) } := by
            rw [q2]
            simp [Instr.mapUpdate, run_underlying hu, MapKept.run_getObj_map q3, K.law.check W _ hl, f2, f1, f3, K.law.stays W hl, MapKept.run_setObj_map _ q3, Result.andThen]
          simp only [Sem.run_bind, hrun, Result.andThen_ok, Sem.run_pure]
          exact ⟨_, _, γ', rfl, .inr ⟨rfl, rfl⟩, s1, s2, trivial⟩
      · cases h
    · cases h
  · cases h
theorem arr_find {α : Type} {a : Array α} {p : α → Bool} : a.findIdx? p = a.toList.findIdx? p := by
  cases a
  simp
theorem findIdx_map {α β : Type} {f : α → β} {p : β → Bool} {l : List α} : l.findIdx? (fun x => p (f x)) = (l.map f).findIdx? p := by
  induction l with
  | nil => rfl
  | cons a r ih => simp only [List.map_cons, List.findIdx?_cons, ih]
theorem entryStore_ok (hp : Hp F B S γ W) {ev : Operand → D} {ρ : Operand → Value} (hev : ∀ x, RepD W.cell? (Frz F S γ W) S.get γ (ev x) (ρ x) ∧ (ev x).bnd B) {t : TypeId} {m s y : Operand} {r : Res} {o : Oper} (hop : o.op = .entryStore t m s y) (h : arE P S.get fid ev o = some r) (hc : r.c = true) :
    OpOK F B S γ W fid ((do Instr.entryStore t (ρ m) (ρ s) (ρ y); pure .skip : Sem Next).run P W) r := by
  unfold arE at h
  rw [hop] at h
  simp only at h
  split at h
  · rename_i id b hm hs
    split at h
    · rename_i k e es n hob
      split at h
      · rename_i v hB hv
        simp only [Option.some.injEq] at h
        subst h
        simp only at hc
        have h1 := (hev m).1
        rw [hm] at h1
        obtain ⟨g, arr, q1, q2, q3, q4⟩ := mp_at hp hob h1
        have hy := conv0 hp hv (hev y).1
        have h2 := (hev s).1
        rw [hs] at h2
        simp only [RepD] at h2
        have hmaps : arr.toList.map (·.born) = es.map (fun x => x.2.2) := by
          apply List.ext_getElem?
          intro i
          simp only [List.getElem?_map]
          by_cases hlt : i < es.length
          · obtain ⟨m', g1, _, _, g4⟩ := q4.2.1 i _ (List.getElem?_eq_getElem hlt)
            rw [List.getElem?_eq_getElem hlt, show arr.toList[i]? = some m' from by simpa using g1]
            simp [g4]
          · rw [List.getElem?_eq_none (by have := q4.1; simp; omega), List.getElem?_eq_none (by omega)]
            rfl
        have hfind : arr.findIdx? (fun e => (e.born : Int) == (b : Int)) = es.findIdx? (fun x => decide (x.2.2 = b)) := by
          rw [arr_find, findIdx_map (f := fun e : MapEntry => e.born) (p := fun n => (n : Int) == (b : Int)), findIdx_map (f := fun x : k.T × e.T × Nat => x.2.2) (p := fun n => decide (n = b)), hmaps]
          congr 1
          funext n
          rw [Bool.eq_iff_iff]
          simp only [beq_iff_eq, decide_eq_true_eq]
          exact Int.ofNat_inj
        cases hi : es.findIdx? (fun x => decide (x.2.2 = b)) with
        | none =>
          unfold mHas at hc
          rw [List.any_eq_true] at hc
          obtain ⟨x, hx, hxb⟩ := hc
          have := List.findIdx?_eq_none_iff.1 hi x hx
          rw [hxb] at this
          cases this
        | some i =>
          rw [hi] at hfind
          have e3 : mPut b v es = es.modify i fun x => (x.1, v, x.2.2) := by unfold mPut; rw [hi]
          rw [e3]
          obtain ⟨γ', s1, s2⟩ := mp_wr (fid := fid) (n' := n) hp hob q1 q3 (q4.modify (i := i) (f := fun e => { e with val := ρ y }) (fun m hm => ⟨rfl, rfl, rfl⟩) hy)
          have hrun : (Instr.entryStore t (ρ m) (ρ s) (ρ y)).run P W = .ok () { W with heap := W.heap.setIfInBounds g (.map (arr.modify i fun e => { e with val := ρ y }) n) } := by
            rw [q2, h2]
            simp [Instr.entryStore, MapKept.run_getObj_map q3, asInt, asIntOf, hfind, MapKept.run_setObj_map _ q3, Result.andThen]
          simp only [Sem.run_bind, hrun, Result.andThen_ok, Sem.run_pure]
          exact ⟨_, _, γ', rfl, .inr ⟨rfl, rfl⟩, s1, s2, trivial⟩
      · cases h
    · cases h
  · cases h
theorem Hp.bufHole (hp : Hp F B S γ W) (n : Nat) {id i off : Nat} {e : Ty} {xs : List e.T} {d : D} {u : Value} (hob : S.get id = some (.buf e xs)) (hi : i < xs.length) (ho : off < e.cells)
    (hd : RepD W.cell? (Frz F S γ W) S.get γ d u) (hb : d.bnd B) {g cap : Nat} {us : Array Value} {t : TypeId} (h1 : hdG γ id = some (g, cap)) (h2 : W.heap[g]? = some (.cells us t (0, 0))) :
    i * e.cells + off < us.size ∧ ∃ γ', Stp F B S γ W ⟨n, (id, some (.bh e xs i off d)) :: S.m⟩ γ' (W.setRow g (us.setIfInBounds (i * e.cells + off) u)) ∧ Hp F B ⟨n, (id, some (.bh e xs i off d)) :: S.m⟩ γ' (W.setRow g (us.setIfInBounds (i * e.cells + off) u)) := by
  rcases hp.obs id _ hob with ⟨_, k2⟩ | ⟨g', cap', us', t', k1, k2, k3, k4, k5, k6⟩
  · subst k2; simp at hi
  have e9 : hdG γ id = some (g', cap') := by unfold hdG; rw [k1]; rfl
  rw [h1] at e9
  simp only [Option.some.injEq, Prod.mk.injEq] at e9
  obtain ⟨rfl, rfl⟩ := e9
  rw [h2] at k2
  simp only [Option.some.injEq, Obj.cells.injEq] at k2
  obtain ⟨rfl, rfl, _⟩ := k2
  have hsz : i * e.cells + off < us.size := by
    have a1 := Nat.mul_le_mul_right e.cells (show i + 1 ≤ cap by omega)
    rw [Nat.add_mul, Nat.one_mul] at a1
    omega
  refine ⟨hsz, updG γ id [(g, cap)], hp.wr n hob (fun q hq => by rw [k1]; exact hq) (by simp) (by rw [k1]) ⟨rfl, rfl⟩ (fun b hb => setRow_other W g b _ (fun e => hb cap (by rw [e, k1]; exact List.mem_cons_self))) (by simp) rfl rfl rfl (fun hst => ?_) ⟨hb, trivial⟩⟩
  refine ⟨g, cap, _, t, u, us[i * e.cells + off]?, updG_self _ _ _, setRow_heap W g us _ t _ h2, k3, by simpa using k4, k5, hi, ho, by simp [Array.getElem?_setIfInBounds, hsz], hst.repD hb hd, fun k x hx => ?_⟩
  refine (hst.repC (k6 k x hx)).congr (fun j _ => ?_)
  by_cases hj : k * e.cells + j = i * e.cells + off
  · simp [hj]
  · simp [hj, Array.getElem?_setIfInBounds, Ne.symm hj]

/-- Operations at a slice's own elements. -/
theorem arE_ok (hp : Hp F B S γ W) (hf : ¬ B fid) {ev : Operand → D} {ρ : Operand → Value} (hev : ∀ x, RepD W.cell? (Frz F S γ W) S.get γ (ev x) (ρ x) ∧ (ev x).bnd B) {o : Oper} {r : Res} (h : arE P S.get fid ev o = some r) (hc : r.c = true) :
    OpOK F B S γ W fid ((execOp ρ o).run P W) r := by
  unfold arE at h
  unfold execOp
  cases hop : o.op with
  | load t p =>
    rw [hop] at h
    simp only at h ⊢
    split at h
    · rename_i id i off hp1 ha
      split at h
      · rename_i c xs hg
        split at h
        · rename_i d ob ho
          simp only [Option.some.injEq] at h
          subst h
          have h1 := (hev p).1
          rw [hp1] at h1
          simp only [RepD] at h1
          rw [hg] at h1
          obtain ⟨_, hi, g, cap, e1, e2⟩ := h1
          obtain ⟨g', cap', us, t', w, γ', q1, q2, q3, q4, q5, q6, q7⟩ := hp.focus hf S.nx hg hi ho
          rw [e1] at q1
          simp only [Option.some.injEq, Prod.mk.injEq] at q1
          obtain ⟨rfl, rfl⟩ := q1
          refine ⟨.value w, W, γ', ?_, .inl ⟨w, rfl, q6⟩, q4, q5, q7⟩
          rw [e2]
          simp only [Instr.loadAt, Instr.sureAddr, Sem.run_bind, Sem.run_pure, Result.andThen_ok]
          rw [run_loadLeaf (v := w) ha _ (by simp [World.cell?, q2, q3])]
          rfl
        · cases h
      · rename_i e xs k off' d hg
        split at h
        · rename_i hoff
          simp only [Option.some.injEq] at h
          subst h
          simp only at hc
          have e5 := Nat.eq_of_beq_eq_true hoff
          have e6 := Nat.eq_of_beq_eq_true hc
          subst e5
          subst e6
          have h1 := (hev p).1
          rw [hp1] at h1
          simp only [RepD] at h1
          rw [hg] at h1
          obtain ⟨_, hi, g, cap, e1, e2⟩ := h1
          obtain ⟨g', cap', us, t', w, u, q1, q2, q3, q4, q5, q6, q7, q8, q9, q10⟩ := hp.obs id _ hg
          have e9 : hdG γ id = some (g', cap') := by unfold hdG; rw [q1]; rfl
          rw [e1] at e9
          simp only [Option.some.injEq, Prod.mk.injEq] at e9
          obtain ⟨rfl, rfl⟩ := e9
          have hB := (hp.obsB id _ hg).2
          simp only [Ob.dsOf, bnds] at hB
          rw [hc]
          have hrun : (do pure (Next.value (← Instr.loadAt t (ρ p))) : Sem Next).run P W = .ok (.value w) W := by
            rw [e2]
            simp only [Instr.loadAt, Instr.sureAddr, Sem.run_bind, Sem.run_pure, Result.andThen_ok]
            rw [run_loadLeaf (v := w) ha _ (by simp [World.cell?, q2, q8])]
            rfl
          rw [hrun]
          exact OpOK.same hp q9 hB.1
        · cases h
      · cases h
    · cases h
  | store t p x =>
    rw [hop] at h
    simp only at h ⊢
    split at h
    · rename_i id i off inf d hp1 hi hcl
      have fin : ∀ (c : CP) (xs : List c.T) (hl : Option (Nat × D)), S.get id = some (.arr c xs hl) → (∀ k d0, hl = some (k, d0) → k = i) → (Nat.beq inf.size 1 && d.leaf) = true → r = ⟨true, .junk, [(id, some (.arr c xs (some (i, d))))]⟩ → OpOK F B S γ W fid (Sem.run P (do
          Instr.storeAt t (ρ p) (ρ x)
          pure Next.skip) W) r := by
        intro c xs hl hg hk hb hr
        subst hr
        rw [Bool.and_eq_true] at hb
        have e1 := Nat.eq_of_beq_eq_true hb.1
        have h1 := (hev p).1
        rw [hp1] at h1
        simp only [RepD] at h1
        rw [hg] at h1
        obtain ⟨_, hil, g, cap, e3, e4⟩ := h1
        obtain ⟨vs, v1, v2⟩ := cellsD_rep hcl (hev x).1 (by simp [hb.2])
        simp only [RepDs] at v2
        obtain ⟨u, r0, rfl, v3, rfl⟩ := v2
        have hbx := cellsD_bnd hcl (hev x).2
        simp only [bnds] at hbx
        obtain ⟨us, t', hblk⟩ : ∃ us t', W.heap[g]? = some (.cells us t' (0, 0)) := by
          rcases hp.obs id _ hg with ⟨k1, _⟩ | ⟨g', cap', us', t', bls, k1, k2, _⟩
          · rw [hd_nil k1] at e3
            cases e3
          · have : hdG γ id = some (g', cap') := by unfold hdG; rw [k1]; rfl
            rw [e3] at this
            simp only [Option.some.injEq, Prod.mk.injEq] at this
            obtain ⟨rfl, rfl⟩ := this
            exact ⟨us', t', k2⟩
        obtain ⟨hsz, γ', s1, s2⟩ := hp.arrStore S.nx hg hil hk v3 hbx.1 e3 hblk
        refine ⟨.skip, _, γ', ?_, .inr ⟨rfl, rfl⟩, s1, s2.mono (fun _ h => .inl h), trivial⟩
        have hrun := run_storeAt (P := P) (W := W) hi (g := g) (off := i) v1 e1 hblk (by simp; omega) (leaves_one (ds := [d]) (vs := [u]) (by simp [hb.2]) ⟨u, [], rfl, v3, rfl⟩)
        rw [set_split (by simpa using hsz)] at hrun
        rw [e4]
        simp only [Sem.run_bind, hrun, Result.andThen_ok, Sem.run_pure]
        congr 2
        apply Array.ext'
        simp
      split at h
      · rename_i c xs hb hg
        simp only [Option.some.injEq] at h
        exact fin c xs none hg (fun _ _ e => by cases e) hb h.symm
      · rename_i e xs hb hg
        split at h
        · rename_i hlt
          simp only [Option.some.injEq] at h
          subst h
          rw [Bool.and_eq_true] at hb
          have e1 := Nat.eq_of_beq_eq_true hb.1
          have h1 := (hev p).1
          rw [hp1] at h1
          simp only [RepD] at h1
          rw [hg] at h1
          obtain ⟨_, hil, g, cap, e3, e4⟩ := h1
          obtain ⟨vs, v1, v2⟩ := cellsD_rep hcl (hev x).1 (by simp [hb.2])
          simp only [RepDs] at v2
          obtain ⟨u, r0, rfl, v3, rfl⟩ := v2
          have hbx := cellsD_bnd hcl (hev x).2
          simp only [bnds] at hbx
          obtain ⟨us, t', hblk⟩ : ∃ us t', W.heap[g]? = some (.cells us t' (0, 0)) := by
            rcases hp.obs id _ hg with ⟨k1, _⟩ | ⟨g', cap', us', t', k1, k2, _⟩
            · rw [hd_nil k1] at e3
              cases e3
            · have : hdG γ id = some (g', cap') := by unfold hdG; rw [k1]; rfl
              rw [e3] at this
              simp only [Option.some.injEq, Prod.mk.injEq] at this
              obtain ⟨rfl, rfl⟩ := this
              exact ⟨us', t', k2⟩
          obtain ⟨hsz, γ', s1, s2⟩ := hp.bufHole S.nx hg hil (by rw [Nat.blt_eq] at hlt; exact hlt) v3 hbx.1 e3 hblk
          refine ⟨.skip, _, γ', ?_, .inr ⟨rfl, rfl⟩, s1, s2.mono (fun _ h => .inl h), trivial⟩
          have hrun := run_storeAt (P := P) (W := W) hi (g := g) (off := i * e.cells + off) v1 e1 hblk (by simp; omega) (leaves_one (ds := [d]) (vs := [u]) (by simp [hb.2]) ⟨u, [], rfl, v3, rfl⟩)
          rw [set_split (by simpa using hsz)] at hrun
          rw [e4]
          simp only [Sem.run_bind, hrun, Result.andThen_ok, Sem.run_pure]
          congr 2
          apply Array.ext'
          simp
        · cases h
      · rename_i c xs k d0 hb hg
        simp only [Option.some.injEq] at h
        subst h
        simp only at hc
        refine fin c xs _ hg (fun k' d' e => ?_) hb (by rw [hc])
        simp only [Option.some.injEq, Prod.mk.injEq] at e
        rw [← e.1]
        exact Nat.eq_of_beq_eq_true hc
      · cases h
    · cases h
  | makeSlice t l c =>
    rw [hop] at h
    simp only at h ⊢
    exact makeA_ok hp hf h hc (hev l).1 (hev c).1
  | makeMap t res =>
    rw [hop] at h
    simp only at h ⊢
    cases res with
    | some _ => simp at h
    | none =>
      simp only at h
      split at h
      · simp only [Option.some.injEq] at h
        subst h
        exact makeMap_ok hp hf t _ _
      · cases h
  | lookup t m x ok =>
    rw [hop] at h
    simp only at h ⊢
    exact lookup_ok (o := o) hp hev hop (by unfold arE; rw [hop]; exact h)
  | mapEntry t m x =>
    rw [hop] at h
    simp only at h ⊢
    exact mapEntry_ok (o := o) hp hev hop (by unfold arE; rw [hop]; exact h)
  | entryStore t m s y =>
    rw [hop] at h
    simp only at h ⊢
    exact entryStore_ok (o := o) hp hev hop (by unfold arE; rw [hop]; exact h) hc
  | mapUpdate t m x y =>
    rw [hop] at h
    simp only at h ⊢
    exact mapUpdate_ok (o := o) hp hev hop (by unfold arE; rw [hop]; exact h)
  | _ => rw [hop] at h; simp at h
end
end Go.XD


/- Slots, calls, regions in the order of the text. -/
namespace Go.XD

/-- Arguments. -/
def RepA (cell : Addr → Option Value) (G : Nat → Prop) : (f : Ty) → f.T → List Value → Prop
  | .nil, _, vs => vs = []
  | .cons a b, x, vs => ∃ v r, vs = v :: r ∧ RepV cell G a x.1 v ∧ RepA cell G b x.2 r
  | _, _, _ => False
/-- Results. -/
def RepR (cell : Addr → Option Value) (G : Nat → Prop) (c : Ctr) (y : c.out.T) (v : Value) : Prop := RepD cell G (fun _ => none) (fun _ => []) (retD c y) v

def Callable (P : Program) (n : FuncId) : Prop := ∃ fn, P.funcs[n]? = some fn ∧ (fn.name == "runtime.NumGoroutine") = false ∧ fn.body.isNone = false
/-- The contract holds. -/
def CtrOK (P : Program) (n : FuncId) (c : Ctr) : Prop := Callable P n ∧ ∀ x y, c.f x = some y → ∀ (W : World) (G : Nat → Prop) (args : List Value), (∀ b, G b → b < W.heap.size) → RepA W.cell? G c.ins x args →
  Calls P n args.toArray W fun e W' => ∃ v, e = .returned v ∧ RepR W'.cell? (fun b => G b ∨ (W.heap.size ≤ b ∧ b < W'.heap.size)) c y v ∧ Go.RowKit.Below W.heap.size W W'

/-- A function of the library does that. -/
def NatOK (P : Program) (n : FuncId) (k : Nat) : Prop := Callable P n ∧ ∀ {F : Fm} {B : Nat → Prop} {S : St} {γ : Gam} {W : World} {fid : Nat} {d : D} {v : Value} {r : Res}, Hp F B S γ W → ¬ B fid → RepD W.cell? (Frz F S γ W) S.get γ d v → natR S.get fid k d = some r →
  Calls P n #[v] W fun e W' => ∃ u γ', e = .returned u ∧ Stp F B S γ W ⟨S.nx, r.u ++ S.m⟩ γ' W' ∧ Hp F (ins B fid) ⟨S.nx, r.u ++ S.m⟩ γ' W' ∧ RepD W'.cell? (Frz F ⟨S.nx, r.u ++ S.m⟩ γ' W') (St.get ⟨S.nx, r.u ++ S.m⟩) γ' r.d u ∧ r.d.bnd (ins B fid)
section
variable {P : Program} {F : Fm} {B : Nat → Prop} {env : Env} {S : St} {γ : Gam} {a : Act} {W : World} {fid : Nat}

theorem noGd_get : ∀ {env : Env} {s k s' : Nat} {w : Bool} {d : D}, noGd env s = true → getE env s' = .gd k w d → k ≠ s
  | [], _, _, _, _, _, _, h => by simp [getE] at h
  | (q, e) :: r, s, k, s', w, d, hn, h => by
    rw [getE_cons] at h
    simp only [noGd, List.all_cons, Bool.and_eq_true] at hn
    split at h
    · subst h
      have := hn.1
      simp only [Bool.not_eq_true'] at this
      exact Nat.ne_of_beq_eq_false this
    · exact noGd_get (s := s) (by simpa only [noGd] using hn.2) h

theorem noGd_get' : ∀ {env : Env} {s k s' : Nat} {w : Bool}, noGd env s = true → getE env s' = .kn k w → k ≠ s
  | [], _, _, _, _, _, h => by simp [getE] at h
  | (q, e) :: r, s, k, s', w, hn, h => by
    rw [getE_cons] at h
    simp only [noGd, List.all_cons, Bool.and_eq_true] at hn
    split at h
    · subst h
      have := hn.1
      simp only [Bool.not_eq_true'] at this
      exact Nat.ne_of_beq_eq_false this
    · exact noGd_get' (s := s) (by simpa only [noGd] using hn.2) h

theorem put_get {a : Act} {s : Nat} {v : Value} (hs : s < a.tmps.size) (k : Nat) : (a.put (some s) v).tmps.getD k undef = if s = k then v else a.tmps.getD k undef := by
  simp only [Act.put, Array.getD_eq_getD_getElem?]
  by_cases h : s = k
  · subst h
    rw [if_pos rfl, Array.getElem?_setIfInBounds_self_of_lt hs]
    rfl
  · rw [if_neg h, Array.getElem?_setIfInBounds_ne h]

theorem Rel.put (r : Rel F B env S γ a W) {dst : Option Nat} {d : D} {v : Value} (hd : RepD W.cell? (Frz F S γ W) S.get γ d v) (hb : d.bnd B) (hs : ∀ s, dst = some s → s < F.n ∧ noGd env s = true) (hng : d.isGd = false) :
    Rel F B (putE env dst d) S γ (a.put dst v) W := by
  cases dst with
  | none => exact r
  | some s =>
    obtain ⟨h1, h2⟩ := hs s rfl
    have hsz : s < a.tmps.size := by rw [r.size]; exact h1
    refine ⟨r.hp, fun k => ?_, r.defers, by simp [Act.put, r.size], fun k => ?_⟩
    · simp only [putE]
      rw [getE_cons, put_get hsz]
      by_cases hk : s = k
      · rw [if_pos hk, if_pos hk]
        cases d with
        | gd s w e => cases hng
        | kn s w => cases hng
        | _ => simpa only [SlotRep] using hd
      · rw [if_neg hk, if_neg hk]
        have := r.slots k
        cases hg : getE env k with
        | gd q w e =>
          rw [hg] at this
          simp only [SlotRep] at this ⊢
          have hne := noGd_get h2 hg
          rw [put_get hsz, if_neg (Ne.symm hne)]
          exact this
        | kn q w =>
          rw [hg] at this
          simp only [SlotRep] at this ⊢
          have hne := noGd_get' h2 hg
          rw [put_get hsz, if_neg (Ne.symm hne)]
          exact this
        | _ => rw [hg] at this; simpa only [SlotRep] using this
    · simp only [putE]
      rw [getE_cons]
      split
      · exact hb
      · exact r.envB k

theorem Rel.at (r : Rel F B env S γ a W) (t : Nat) : RepD W.cell? (Frz F S γ W) S.get γ (getE env t) (a.tmps.getD t undef) ∧ (getE env t).bnd B := by
  refine ⟨?_, r.envB t⟩
  have := r.slots t
  cases hg : getE env t with
  | gd s w d => simp only [RepD]
  | kn s w => simp only [RepD]
  | _ => rw [hg] at this; simpa only [SlotRep] using this
theorem evT_gd {m d : D} {t s : Nat} {w : Bool} {e : D} (h : evT m d t = .gd s w e) : d = .gd s w e := by
  unfold evT at h
  split at h
  · split at h
    · cases h
    · exact h
  · exact h
theorem Rel.eval (r : Rel F B env S γ a W) (x : Operand) : RepD W.cell? (Frz F S γ W) S.get γ (evO env x) (a.eval x) ∧ (evO env x).bnd B := by
  cases x with
  | tmp t =>
    simp only [evO, Act.eval]
    have base := r.at t
    unfold evT
    split
    · rename_i k y hm
      split
      · rename_i hk
        have hk := Nat.eq_of_beq_eq_true hk
        subst hk
        have := r.slots (marks + k)
        rw [hm] at this
        simp only [SlotRep] at this
        refine ⟨?_, trivial⟩
        simp only [RepD]
        rw [this]
        unfold RepV
        rw [if_neg (by simp [Ty.isSt])]
        rfl
      · exact base
    · exact base
  | const v => exact ⟨ofConst_rep v, ofConst_bnd _ v⟩
  | global g => exact ⟨by simp only [evO, RepD], trivial⟩
  | func f => exact ⟨by simp only [evO, RepD, Act.eval]; exact ⟨[], rfl, by simp [RepDs]⟩, by simp [evO, D.bnd, bnds]⟩

theorem rm_get : ∀ (ids : List Nat) (m : List (Nat × Option Ob)) (id : Nat), getM (rmv ids m) id = if id ∈ ids then none else getM m id
  | [], m, id => by simp [rmv]
  | k :: r, m, id => by
    simp only [rmv]
    rw [getM_cons, rm_get r m id]
    by_cases h : k = id
    · subst h; simp
    · rw [if_neg h]
      simp only [List.mem_cons, Ne.symm h, false_or]
theorem St.rm_get (S : St) (ids : List Nat) (id : Nat) : (S.rm ids).get id = if id ∈ ids then none else S.get id := Go.XD.rm_get ids S.m id

theorem Hp.rm (hp : Hp F B S γ W) (ids : List Nat) : Stp F B S γ W (S.rm ids) γ W ∧ Hp F B (S.rm ids) γ W := hp.sub _ (fun id ob h => by
  rw [St.rm_get] at h
  split at h
  · cases h
  · exact h)
/-- What is no longer tracked is frozen. -/
theorem Hp.frozen (hp : Hp F B S γ W) {ids : List Nat} {id g c : Nat} {ob : Ob} (hid : id ∈ ids) (ho : S.get id = some ob) (hg : (g, c) ∈ γ id) : Frz F (S.rm ids) γ W g := by
  have ht := hp.trk g ⟨id, ob, c, ho, hg⟩
  refine ⟨.inr ht.1, ht.2, fun hT => ?_⟩
  obtain ⟨id', ob', c', h1, h2⟩ := hT
  rw [St.rm_get] at h1
  split at h1
  · cases h1
  · rename_i hn
    have := hp.inj id id' ob ob' g c c' ho h1 hg h2
    exact hn (this ▸ hid)

theorem convA_rep (hp : Hp F B S γ W) {G' : Nat → Prop} (hG : ∀ b, Frz F S γ W b → G' b) : ∀ {f : Ty} {ds : List D} {x : f.T} {vs : List Value}, convA S.get f ds = some x → RepDs W.cell? (Frz F S γ W) S.get γ ds vs →
    (∀ id ∈ idsC S.get f ds, S.get id ≠ none → ∀ g c, (g, c) ∈ γ id → G' g) → RepA W.cell? G' f x vs
  | .nil, [], x, vs, h, r, hi => by simpa only [RepDs, RepA] using r
  | .nil, _ :: _, x, vs, h, r, hi => by simp [convA] at h
  | .cons a b, [], x, vs, h, r, hi => by simp [convA] at h
  | .cons a b, d :: ds, x, vs, h, r, hi => by
    simp only [convA] at h
    cases h1 : conv S.get a d with
    | none => rw [h1] at h; simp at h
    | some y =>
      cases h2 : convA S.get b ds with
      | none => rw [h1, h2] at h; simp at h
      | some z =>
        rw [h1, h2] at h
        simp only [Option.some.injEq] at h
        subst h
        simp only [RepDs] at r
        obtain ⟨v, us, rfl, r1, r2⟩ := r
        simp only [RepA]
        exact ⟨v, us, rfl, conv_rep (fun _ _ h => h) hp hG h1 r1 (fun id hid => hi id (by simp only [idsC]; exact List.mem_append_left _ hid)),
          convA_rep hp hG h2 r2 (fun id hid => hi id (by simp only [idsC]; exact List.mem_append_right _ hid))⟩
  | .int _, ds, _, _, h, _, _ => by cases ds <;> simp [convA] at h
  | .bool, ds, _, _, h, _, _ => by cases ds <;> simp [convA] at h
  | .str, ds, _, _, h, _, _ => by cases ds <;> simp [convA] at h
  | .lst _, ds, _, _, h, _, _ => by cases ds <;> simp [convA] at h
  | .ptr _, ds, _, _, h, _, _ => by cases ds <;> simp [convA] at h
  | .st _, ds, _, _, h, _, _ => by cases ds <;> simp [convA] at h

theorem resD_fz : ∀ {f : Ty} {x : f.T} {d : D}, d ∈ resD f x → ∃ t y, d = .fz t y
  | .cons a b, x, d, h => by
    simp only [resD, List.mem_cons] at h
    rcases h with rfl | h
    · exact ⟨_, _, rfl⟩
    · exact resD_fz h
  | .nil, _, _, h => by simp [resD] at h
  | .int _, _, _, h => by simp [resD] at h
  | .bool, _, _, h => by simp [resD] at h
  | .str, _, _, h => by simp [resD] at h
  | .lst _, _, _, h => by simp [resD] at h
  | .ptr _, _, _, h => by simp [resD] at h
  | .st _, _, _, h => by simp [resD] at h
theorem fzs_bnd {B : Nat → Prop} : ∀ {ds : List D}, (∀ d ∈ ds, ∃ t y, d = .fz t y) → bnds B ds
  | [], _ => trivial
  | d :: ds, h => by
    simp only [bnds]
    obtain ⟨t, y, rfl⟩ := h d List.mem_cons_self
    exact ⟨trivial, fzs_bnd (fun d hd => h d (List.mem_cons_of_mem _ hd))⟩
theorem fzs_rep {cell cell' : Addr → Option Value} {G G' : Nat → Prop} {get get' : Nat → Option Ob} {γ γ' : Gam} (hc : ∀ a : Addr, G a.block → cell' a = cell a) (hG : ∀ b, G b → G' b) : ∀ {ds : List D} {vs : List Value}, (∀ d ∈ ds, ∃ t y, d = .fz t y) → RepDs cell G get γ ds vs → RepDs cell' G' get' γ' ds vs
  | [], vs, _, r => by simpa only [RepDs] using r
  | d :: ds, vs, h, r => by
    simp only [RepDs] at r ⊢
    obtain ⟨v, us, rfl, r1, r2⟩ := r
    refine ⟨v, us, rfl, ?_, fzs_rep hc hG (fun d hd => h d (List.mem_cons_of_mem _ hd)) r2⟩
    obtain ⟨t, y, rfl⟩ := h d List.mem_cons_self
    simp only [RepD] at r1 ⊢
    exact r1.mono hc hG
theorem tupD_cases (ds : List D) : (∃ d, ds = [d] ∧ tupD ds = d) ∨ (tupD ds = .tup ds ∧ ∀ d, ds ≠ [d]) := by
  cases ds with
  | nil => exact .inr ⟨rfl, by simp⟩
  | cons d r =>
    cases r with
    | nil => exact .inl ⟨d, rfl, rfl⟩
    | cons e r => exact .inr ⟨rfl, by simp⟩
theorem res_rep {cell cell' : Addr → Option Value} {G G' : Nat → Prop} {get get' : Nat → Option Ob} {γ γ' : Gam} (hc : ∀ a : Addr, G a.block → cell' a = cell a) (hG : ∀ b, G b → G' b) {f : Ty} {x : f.T} {v : Value} (r : RepD cell G get γ (tupD (resD f x)) v) :
    RepD cell' G' get' γ' (tupD (resD f x)) v := by
  rcases tupD_cases (resD f x) with ⟨d, h1, h2⟩ | ⟨h1, _⟩
  · rw [h2] at r ⊢
    obtain ⟨t, y, rfl⟩ := resD_fz (f := f) (x := x) (d := d) (by rw [h1]; simp)
    simp only [RepD] at r ⊢
    exact r.mono hc hG
  · rw [h1] at r ⊢
    simp only [RepD] at r ⊢
    obtain ⟨vs, rfl, r⟩ := r
    exact ⟨vs, rfl, fzs_rep hc hG (fun d hd => resD_fz hd) r⟩
theorem res_bnd {B : Nat → Prop} {f : Ty} {x : f.T} : (tupD (resD f x)).bnd B := by
  rcases tupD_cases (resD f x) with ⟨d, h1, h2⟩ | ⟨h1, _⟩
  · rw [h2]
    obtain ⟨t, y, rfl⟩ := resD_fz (f := f) (x := x) (d := d) (by rw [h1]; simp)
    trivial
  · rw [h1]
    simpa only [D.bnd] using fzs_bnd (fun d hd => resD_fz hd)
theorem res_nogd {f : Ty} {x : f.T} : (tupD (resD f x)).isGd = false := by
  rcases tupD_cases (resD f x) with ⟨d, h1, h2⟩ | ⟨h1, _⟩
  · obtain ⟨t, y, rfl⟩ := resD_fz (f := f) (x := x) (d := d) (by rw [h1]; simp)
    rw [h2]; rfl
  · rw [h1]; rfl

theorem ret_rep {cell cell' : Addr → Option Value} {G G' : Nat → Prop} {get get' : Nat → Option Ob} {γ γ' : Gam} (hc : ∀ a : Addr, G a.block → cell' a = cell a) (hG : ∀ b, G b → G' b) {c : Ctr} {x : c.out.T} {v : Value} (r : RepD cell G get γ (retD c x) v) :
    RepD cell' G' get' γ' (retD c x) v := by
  unfold retD at r ⊢
  split at r
  · exact res_rep hc hG r
  · simp only [RepD] at r ⊢
    obtain ⟨vs, rfl, r⟩ := r
    exact ⟨vs, rfl, fzs_rep hc hG (fun d hd => resD_fz hd) r⟩
theorem ret_bnd {B : Nat → Prop} {c : Ctr} {x : c.out.T} : (retD c x).bnd B := by
  unfold retD
  split
  · exact res_bnd
  · simpa only [D.bnd] using fzs_bnd (fun d hd => resD_fz hd)
theorem ret_nogd {c : Ctr} {x : c.out.T} : (retD c x).isGd = false := by
  unfold retD
  split
  · exact res_nogd
  · rfl

theorem flat_C {cell cell' : Addr → Option Value} {G G' : Nat → Prop} : ∀ {t : Ty} (h : flatB t = true) {x : t.T} {f : Nat → Option Value}, RepC cell G t x f → RepC cell' G' t x f
  | .int _, _, _, _, r => r
  | .bool, _, _, _, r => r
  | .str, _, _, _, r => r
  | .st g, h, _, _, r => flat_C (t := g) h r
  | .nil, _, _, _, _ => trivial
  | .cons a b, h, _, _, r => by
    simp only [flatB, Bool.and_eq_true] at h
    exact ⟨flat_C h.1 r.1, flat_C h.2 r.2⟩
  | .lst _, h, _, _, _ => by simp [flatB] at h
  | .ptr _, h, _, _, _ => by simp [flatB] at h
theorem flat_V {cell cell' : Addr → Option Value} {G G' : Nat → Prop} {t : Ty} (h : flatB t = true) {x : t.T} {v : Value} (r : RepV cell G t x v) : RepV cell' G' t x v := by
  unfold RepV at r ⊢
  split at r
  · rename_i hs
    rw [if_pos hs]
    obtain ⟨cs, h1, h2, h3⟩ := r
    exact ⟨cs, h1, h2, flat_C h h3⟩
  · rename_i hs
    rw [if_neg hs]
    exact flat_C h r
theorem flat_Ds {cell cell' : Addr → Option Value} {G G' : Nat → Prop} {get get' : Nat → Option Ob} {γ γ' : Gam} : ∀ {t : Ty} (h : flatB t = true) {x : t.T} {vs : List Value}, RepDs cell G get γ (resD t x) vs → RepDs cell' G' get' γ' (resD t x) vs
  | .cons a b, h, x, vs, r => by
    simp only [flatB, Bool.and_eq_true] at h
    simp only [resD, RepDs, RepD] at r ⊢
    obtain ⟨v, q, h1, h2, h3⟩ := r
    exact ⟨v, q, h1, flat_V h.1 h2, flat_Ds h.2 h3⟩
  | .int _, _, _, _, r => r
  | .bool, _, _, _, r => r
  | .str, _, _, _, r => r
  | .st _, _, _, _, r => r
  | .nil, _, _, _, r => r
  | .lst _, _, _, _, r => r
  | .ptr _, _, _, _, r => r
theorem flat_ret {cell cell' : Addr → Option Value} {G G' : Nat → Prop} {get get' : Nat → Option Ob} {γ γ' : Gam} {c : Ctr} (h : kpB c = true) {x : c.out.T} {v : Value} (r : RepD cell G get γ (retD c x) v) : RepD cell' G' get' γ' (retD c x) v := by
  unfold kpB at h
  rw [Bool.and_eq_true] at h
  unfold retD at r ⊢
  split at r
  · have key := fun vs => flat_Ds (cell := cell) (cell' := cell') (G := G) (G' := G') (get := get) (get' := get') (γ := γ) (γ' := γ') h.2 (x := x) (vs := vs)
    generalize resD c.out x = ds at r key ⊢
    unfold tupD at r ⊢
    split at r
    · rename_i d
      have := key [v] (by simp only [RepDs]; exact ⟨v, [], rfl, r, rfl⟩)
      simp only [RepDs] at this
      obtain ⟨v', q, h1, h2, h3⟩ := this
      simp only [List.cons.injEq] at h1
      rw [h1.1]
      exact h2
    · simp only [RepD] at r ⊢
      obtain ⟨vs, h1, h2⟩ := r
      exact ⟨vs, h1, key vs h2⟩
  · rename_i n hn
    rw [hn] at h
    simp at h
/-- A call by contract. -/
theorem callC_ok {α : Type} (hp : Hp F B S γ W) {n : FuncId} {cs : List Ctr} (hcs : ∀ c ∈ cs, CtrOK P n c) {args : List D} {vs : List Value} {K : D → St → Option α} {r : α} (hr : RepDs W.cell? (Frz F S γ W) S.get γ args vs)
    (h : callC S args K cs = some r) :
    Callable P n ∧ Calls P n vs.toArray W fun e W' => ∃ v d S', e = .returned v ∧ Stp F B S γ W S' γ W' ∧ Hp F B S' γ W' ∧ RepD W'.cell? (Frz F S' γ W') S'.get γ d v ∧ d.bnd B ∧ d.isGd = false ∧ S'.nx = S.nx ∧ K d S' = some r := by
  induction cs with
  | nil => simp [callC] at h
  | cons c cs ih =>
    simp only [callC] at h
    cases hx : convA S.get c.ins args with
    | none => rw [hx] at h; exact ih (fun c hc => hcs c (List.mem_cons_of_mem _ hc)) h
    | some x =>
      rw [hx] at h
      simp only at h
      obtain ⟨y, hy, hK⟩ := Option.bind_eq_some_iff.1 h
      obtain ⟨hcall, hc⟩ := hcs c List.mem_cons_self
      obtain ⟨hst, hp1⟩ := hp.rm (idsC S.get c.ins args)
      have hA : RepA W.cell? (Frz F (S.rm (idsC S.get c.ins args)) γ W) c.ins x vs := convA_rep hp (fun b hb => hst.frz hb) hx hr (fun id hid hne g cc hg => by
        cases ho : S.get id with
        | none => exact absurd ho hne
        | some ob => exact hp.frozen hid ho hg)
      refine ⟨hcall, (hc x y hy W (Frz F (S.rm (idsC S.get c.ins args)) γ W) vs (fun b hb => hb.2.1) hA).mono fun e W' hW => ?_⟩
      obtain ⟨v, rfl, hres, hbel⟩ := hW
      cases hkp : kpB c with
      | true =>
        rw [hkp] at hK
        have hst3 : Stp F B S γ W S γ W' := ⟨fun id _ ob h => ⟨ob, h, like_refl _, rfl⟩, hbel.os, hbel.tape, hbel.output, hbel.size, fun b hb _ => hbel.block b hb, fun b hb => .inl hb⟩
        have hp3 : Hp F B S γ W' := hst3.hp hp (fun _ h => h) (fun id ob ho => hst3.ob hp ho rfl (fun g cc hg => hbel.block g (hp.blt ho hg))) hp.inj hp.nd hp.obsB
        exact ⟨v, _, _, rfl, hst3, hp3, flat_ret hkp hres, ret_bnd, ret_nogd, rfl, hK⟩
      | false =>
      rw [hkp] at hK
      have hst2 : Stp F B (S.rm (idsC S.get c.ins args)) γ W (S.rm (idsC S.get c.ins args)) γ W' :=
        ⟨fun id _ ob h => ⟨ob, h, like_refl _, rfl⟩, hbel.os, hbel.tape, hbel.output, hbel.size, fun b hb _ => hbel.block b hb, fun b hb => .inl hb⟩
      have hp2 : Hp F B (S.rm (idsC S.get c.ins args)) γ W' := hst2.hp hp1 (fun _ h => h) (fun id ob ho => hst2.ob hp1 ho rfl (fun g cc hg => hbel.block g (hp1.blt ho hg))) hp1.inj hp1.nd hp1.obsB
      refine ⟨v, _, _, rfl, hst.trans hst2, hp2, ret_rep (fun _ _ => rfl) (fun b hb => ?_) hres, ret_bnd, ret_nogd, rfl, hK⟩
      rcases hb with hb | hb
      · exact hst2.frz hb
      · refine ⟨.inr (.inr (Nat.le_trans hp1.kept.size hb.1)), hb.2, fun hT => ?_⟩
        have := (hp1.trk b hT).2
        omega
end
end Go.XD


/- One operation of a region, its guard looked at. -/
namespace Go.XD

section
variable {P : Program} {F : Fm} {B : Nat → Prop} {env : Env} {S : St} {γ : Gam} {a : Act} {W : World} {fid : Nat}

theorem mth_run {t : TypeId} {name : String} {f : FuncId} (h : mth P t name = some f) (n : Nat) (v : Value) (W : World) : (method (n + 1) t v name).run P W = .ok (f, v) W := by
  unfold mth at h
  split at h
  · rename_i inf u hi hu
    split at h
    · rename_i m hm
      split at h
      · rename_i f' el hp hf
        simp only [Option.some.injEq] at h
        subst h
        unfold method
        simp only [Sem.run_bind, typeInfo, run_program, Result.andThen_ok, hi, hm, hp, follow, Sem.run_pure, hf, receiverAt, run_underlying hu, Place.get]
      · rename_i f' fs hp hf
        simp only [Option.some.injEq] at h
        subst h
        unfold method
        simp only [Sem.run_bind, typeInfo, run_program, Result.andThen_ok, hi, hm, hp, follow, Sem.run_pure, hf, receiverAt, run_underlying hu, Place.get]
      · cases h
    · cases h
  · cases h
theorem callOf_run {cfg : Cfg} (hP : cfg.P = P) {ev : Operand → D} {ρ : Operand → Value} (hev : ∀ x, RepD W.cell? (Frz F S γ W) S.get γ (ev x) (ρ x) ∧ (ev x).bnd B) {o : Oper} {args : List D} {cs : List Ctr} (h : callOf cfg ev o = some (args, cs)) :
    ∃ n vs, cs = cfg.fn n ∧ RepDs W.cell? (Frz F S γ W) S.get γ args vs ∧ (Callable P n → (execOp ρ o).run P W = .ok (.enter n vs.toArray) W) := by
  unfold callOf at h
  cases ho : o.op <;> rw [ho] at h <;> simp only [reduceCtorEq] at h
  case call c =>
    cases hc : c.callee with
    | value f =>
      rw [hc] at h
      simp only at h
      cases hf : ev f with
      | clo n caps =>
        rw [hf] at h
        simp only [Option.some.injEq, Prod.mk.injEq] at h
        obtain ⟨rfl, rfl⟩ := h
        have h1 := (hev f).1
        rw [hf] at h1
        simp only [RepD] at h1
        obtain ⟨us, h2, h3⟩ := h1
        have h4 := (repDs_map (γ := γ) (B := B) hev c.args.toList).1
        refine ⟨n, c.args.toList.map ρ ++ us, rfl, h4.append h3, fun hcall => ?_⟩
        obtain ⟨fn, k1, k2, k3⟩ := hcall
        have e : (#[] ++ c.args.map ρ) ++ us.toArray = (c.args.toList.map ρ ++ us).toArray := by
          apply Array.ext'
          simp
        unfold execOp
        rw [ho]
        simp only [resolve, hc, h2, Deferred.ofValue, Sem.run_bind, Sem.run_pure, Result.andThen_ok, invoke, callFunc, run_program, k1, k2, k3, Bool.false_eq_true, if_false, e]
      | _ => rw [hf] at h; simp at h
    | invoke rv name =>
      rw [hc] at h
      simp only at h
      cases hf : ev rv with
      | ifc t d =>
        rw [hf] at h
        simp only at h
        cases hm : mth cfg.P t name with
        | none => rw [hm] at h; simp at h
        | some n =>
          rw [hm] at h
          simp only [Option.some.injEq, Prod.mk.injEq] at h
          obtain ⟨rfl, rfl⟩ := h
          have h1 := (hev rv).1
          rw [hf] at h1
          simp only [RepD] at h1
          obtain ⟨w, h2, h3⟩ := h1
          have h4 := (repDs_map (γ := γ) (B := B) hev c.args.toList).1
          refine ⟨n, w :: c.args.toList.map ρ, rfl, ⟨w, _, rfl, h3, h4⟩, fun hcall => ?_⟩
          obtain ⟨fn, k1, k2, k3⟩ := hcall
          have e0 : (#[Value.iface t w] ++ c.args.map ρ)[0]? = some (.iface t w) := by simp [Array.getElem?_append]
          have e1 : (#[Value.iface t w] ++ c.args.map ρ).extract 1 (#[Value.iface t w] ++ c.args.map ρ).size = c.args.map ρ := by
            apply Array.ext'
            simp
            rw [List.take_of_length_le (by simp)]
          have e2 : #[w] ++ c.args.map ρ = (w :: c.args.toList.map ρ).toArray := by
            apply Array.ext'
            simp
          have hmr : ∀ W, (method (P.types.size + Made.depth) t w name).run P W = .ok (n, w) W := fun W => mth_run (hP ▸ hm) (P.types.size + (Made.depth - 1)) w W
          unfold execOp
          rw [ho]
          simp only [resolve, hc, h2, Sem.run_bind, Sem.run_pure, Result.andThen_ok, invoke, e0, callMethod, e1, run_program, hmr, callFunc, k1, k2, k3, Bool.false_eq_true, if_false, e2]
      | _ => rw [hf] at h; simp at h
    | _ => rw [hc] at h; simp at h

/-- All slots but one are as they were. -/
def Oth (dst : Option Nat) (a a' : Act) : Prop := ∀ k, dst ≠ some k → a'.tmps.getD k undef = a.tmps.getD k undef
theorem oth_put (dst : Option Nat) (v : Value) (a : Act) : Oth dst a (a.put dst v) := fun k hk => by
  cases dst with
  | none => rfl
  | some s =>
    have : s ≠ k := fun e => hk (by rw [e])
    simp only [Act.put, Array.getD_eq_getD_getElem?]
    rw [Array.getElem?_setIfInBounds_ne this]
/-- What an operation leaves for what comes next. -/
def NextOK {α : Type} (F : Fm) (B : Nat → Prop) (fid : Nat) (S : St) (γ : Gam) (W : World) (dst : Option Nat) (a : Act) (r : α) (K : Env → St → Option α) (next : Act → World → Prop) : Prop :=
  ∀ env' S' γ' a' W', S'.nx = S.nx → Oth dst a a' → Stp F B S γ W S' γ' W' → Rel F (ins B fid) env' S' γ' a' W' → K env' S' = some r → next a' W'

theorem exec_res {α : Type} (rel : Rel F B env S γ a W) {o : Oper} {re : Res} (hok : OpOK F B S γ W fid ((execOp a.eval o).run P W) re)
    (hs : ∀ s, o.dst = some s → s < F.n ∧ noGd env s = true) {r : α} {K : Env → St → Option α} {next : Act → World → Prop} {Q : Exit → Act → World → Prop} (hng : re.d.isGd = false)
    (hn : ∀ env' S' γ' a' W', Stp F B S γ W S' γ' W' → Rel F (ins B fid) env' S' γ' a' W' → env' = putE env o.dst re.d → S' = ⟨S.nx, re.u ++ S.m⟩ → (∀ k, (∀ s, o.dst = some s → k ≠ s) → a'.tmps.getD k undef = a.tmps.getD k undef) → next a' W') : o.wp P a W next Q := by
  obtain ⟨nxt, W', γ', h1, h2, h3, h4, h5⟩ := hok
  have rel' : Rel F (ins B fid) env ⟨S.nx, re.u ++ S.m⟩ γ' a W' := h3.rel rel (fun _ h => .inl h) h4
  unfold Oper.wp
  rw [h1]
  have other : ∀ v k, (∀ s, o.dst = some s → k ≠ s) → (a.put o.dst v).tmps.getD k undef = a.tmps.getD k undef := by
    intro v k hk
    cases hd : o.dst with
    | none => rfl
    | some s =>
      have : s < a.tmps.size := by rw [rel.size]; exact (hs s hd).1
      rw [put_get this, if_neg (Ne.symm (hk s hd))]
  rcases h2 with ⟨v, rfl, hv⟩ | ⟨rfl, hj⟩
  · rw [Oper.upon_value]
    exact hn _ _ _ _ _ h3 (rel'.put hv h5 hs hng) rfl rfl (other v)
  · rw [Oper.upon_skip]
    refine hn _ _ _ _ _ h3 (rel'.put ?_ h5 hs hng) rfl rfl (other undef)
    rw [hj]
    simp only [RepD]

theorem exec_plain {α : Type} (rel : Rel F B env S γ a W) (hf : ¬ B fid) {ev : Operand → D} (hev : ∀ x, RepD W.cell? (Frz F S γ W) S.get γ (ev x) (a.eval x) ∧ (ev x).bnd B) (hgd : ∀ x s w e, ev x = .gd s w e → a.eval (.tmp s) = .bool w → RepD W.cell? (Frz F S γ W) S.get γ e (a.eval x)) {o : Oper} {re : Res} (he : opE P S.get fid ev o = some re) (hc : re.c = true)
    (hs : ∀ s, o.dst = some s → s < F.n ∧ noGd env s = true) {r : α} {K : Env → St → Option α} {next : Act → World → Prop} {Q : Exit → Act → World → Prop} (hng : re.d.isGd = false)
    (hn : ∀ env' S' γ' a' W', Stp F B S γ W S' γ' W' → Rel F (ins B fid) env' S' γ' a' W' → env' = putE env o.dst re.d → S' = ⟨S.nx, re.u ++ S.m⟩ → (∀ k, (∀ s, o.dst = some s → k ≠ s) → a'.tmps.getD k undef = a.tmps.getD k undef) → next a' W') : o.wp P a W next Q := by
  exact exec_res (r := r) (K := K) rel (opE_ok rel.hp hf hev hgd he hc) hs hng hn

theorem exec_call {α : Type} {cfg : Cfg} (hP : cfg.P = P) (hfn : ∀ n, ∀ c ∈ cfg.fn n, CtrOK P n c) (rel : Rel F B env S γ a W) {ev : Operand → D} (hev : ∀ x, RepD W.cell? (Frz F S γ W) S.get γ (ev x) (a.eval x) ∧ (ev x).bnd B) {o : Oper} {args : List D} {cs : List Ctr}
    (he : callOf cfg ev o = some (args, cs)) {r : α} {K : D → St → Option α} (hK : callC S args K cs = some r) {next : Act → World → Prop} {Q : Exit → Act → World → Prop}
    (hn : ∀ v d S' W', Stp F B S γ W S' γ W' → Hp F B S' γ W' → RepD W'.cell? (Frz F S' γ W') S'.get γ d v → d.bnd B → d.isGd = false → S'.nx = S.nx → K d S' = some r → next (a.put o.dst v) W') : o.wp P a W next Q := by
  obtain ⟨n, vs, rfl, h1, h2⟩ := callOf_run hP hev he
  obtain ⟨h3, h4⟩ := callC_ok rel.hp (hfn n) h1 hK
  unfold Oper.wp
  rw [h2 h3, Oper.upon_enter]
  refine h4.mono fun e W' hW => ?_
  obtain ⟨v, d, S', rfl, k1, k2, k3, k4, k5, k0, k6⟩ := hW
  exact hn v d S' W' k1 k2 k3 k4 k5 k0 k6

theorem callF_run {B : Nat → Prop} {S : St} {γ : Gam} {W : World} {ev : Operand → D} {ρ : Operand → Value} (hev : ∀ x, RepD W.cell? (Frz F S γ W) S.get γ (ev x) (ρ x) ∧ (ev x).bnd B) {o : Oper} {args : List D} {n : FuncId} (h : callF ev o = some (n, args)) :
    ∃ vs, RepDs W.cell? (Frz F S γ W) S.get γ args vs ∧ bnds B args ∧ (Callable P n → (execOp ρ o).run P W = .ok (.enter n vs.toArray) W) := by
  unfold callF at h
  cases ho : o.op <;> rw [ho] at h <;> simp only [reduceCtorEq] at h
  case call c =>
    cases hc : c.callee with
    | value f =>
      rw [hc] at h
      simp only at h
      cases hf : ev f with
      | clo n caps =>
        rw [hf] at h
        simp only [Option.some.injEq, Prod.mk.injEq] at h
        obtain ⟨rfl, rfl⟩ := h
        have h1 := hev f
        rw [hf] at h1
        simp only [RepD, D.bnd] at h1
        obtain ⟨⟨us, h2, h3⟩, hb⟩ := h1
        have h4 := repDs_map (γ := γ) (B := B) hev c.args.toList
        refine ⟨c.args.toList.map ρ ++ us, h4.1.append h3, bnds_append h4.2 hb, fun hcall => ?_⟩
        obtain ⟨fn, k1, k2, k3⟩ := hcall
        have e : (#[] ++ c.args.map ρ) ++ us.toArray = (c.args.toList.map ρ ++ us).toArray := by
          apply Array.ext'
          simp
        unfold execOp
        rw [ho]
        simp only [resolve, hc, h2, Deferred.ofValue, Sem.run_bind, Sem.run_pure, Result.andThen_ok, invoke, callFunc, run_program, k1, k2, k3, Bool.false_eq_true, if_false, e]
      | _ => rw [hf] at h; simp at h
    | _ => rw [hc] at h; simp at h

theorem callI_run {B : Nat → Prop} {S : St} {γ : Gam} {W : World} {cfg : Cfg} (hP : cfg.P = P) {ev : Operand → D} {ρ : Operand → Value} (hev : ∀ x, RepD W.cell? (Frz F S γ W) S.get γ (ev x) (ρ x) ∧ (ev x).bnd B) {o : Oper} {args : List D} {n : FuncId} (h : callI cfg ev o = some (n, args)) :
    ∃ vs, RepDs W.cell? (Frz F S γ W) S.get γ args vs ∧ bnds B args ∧ (Callable P n → (execOp ρ o).run P W = .ok (.enter n vs.toArray) W) := by
  have hF : ∀ c f, o.op = .call c → c.callee = .value f → callF ev o = some (n, args) := by
    intro c f ho hc
    unfold callI at h
    unfold callF
    rw [ho] at h ⊢
    simp only [hc] at h ⊢
    exact h
  unfold callI at h
  cases ho : o.op <;> rw [ho] at h <;> simp only [reduceCtorEq] at h
  case call c =>
    cases hc : c.callee with
    | value f => exact callF_run hev (hF c f ho hc)
    | invoke rv name =>
      rw [hc] at h
      simp only at h
      cases hf : ev rv with
      | ifc t d =>
        rw [hf] at h
        simp only at h
        cases hm : mth cfg.P t name with
        | none => rw [hm] at h; simp at h
        | some m =>
          rw [hm] at h
          simp only [Option.some.injEq, Prod.mk.injEq] at h
          obtain ⟨rfl, rfl⟩ := h
          have h1 := hev rv
          rw [hf] at h1
          simp only [RepD, D.bnd] at h1
          obtain ⟨⟨w, h2, h3⟩, hb⟩ := h1
          have h4 := repDs_map (γ := γ) (B := B) hev c.args.toList
          refine ⟨w :: c.args.toList.map ρ, ⟨w, _, rfl, h3, h4.1⟩, ⟨hb, h4.2⟩, fun hcall => ?_⟩
          obtain ⟨fn, k1, k2, k3⟩ := hcall
          have e0 : (#[Value.iface t w] ++ c.args.map ρ)[0]? = some (.iface t w) := by simp [Array.getElem?_append]
          have e1 : (#[Value.iface t w] ++ c.args.map ρ).extract 1 (#[Value.iface t w] ++ c.args.map ρ).size = c.args.map ρ := by
            apply Array.ext'
            simp
            rw [List.take_of_length_le (by simp)]
          have e2 : #[w] ++ c.args.map ρ = (w :: c.args.toList.map ρ).toArray := by
            apply Array.ext'
            simp
          have hmr : ∀ W, (method (P.types.size + Made.depth) t w name).run P W = .ok (m, w) W := fun W => mth_run (hP ▸ hm) (P.types.size + (Made.depth - 1)) w W
          unfold execOp
          rw [ho]
          simp only [resolve, hc, h2, Sem.run_bind, Sem.run_pure, Result.andThen_ok, invoke, e0, callMethod, e1, run_program, hmr, callFunc, k1, k2, k3, Bool.false_eq_true, if_false, e2]
      | _ => rw [hf] at h; simp at h
    | _ => rw [hc] at h; simp at h

theorem natF_callF {ev : Operand → D} {o : Oper} {p : FuncId × List D} (h : natF ev o = some p) : callF ev o = some p := by
  unfold natF at h
  unfold callF
  cases ho : o.op <;> rw [ho] at h <;> simp only [reduceCtorEq] at h ⊢
  case call c =>
    cases hc : c.callee with
    | value f =>
      rw [hc] at h
      simp only at h ⊢
      cases hf : ev f with
      | clo n caps =>
        rw [hf] at h
        cases caps with
        | nil => simpa using h
        | cons _ _ => simp at h
      | _ => rw [hf] at h; simp at h
    | _ => rw [hc] at h; simp at h
theorem exec_nat {cfg : Cfg} (hnt : ∀ n k, cfg.nt n = some k → NatOK P n k) (rel : Rel F B env S γ a W) (hf : ¬ B fid) {o : Oper} {re : Res} (he : natE cfg S.get fid (evO env) o = some re) {next : Act → World → Prop} {Q : Exit → Act → World → Prop}
    (hn : ∀ u γ' W', Stp F B S γ W ⟨S.nx, re.u ++ S.m⟩ γ' W' → Hp F (ins B fid) ⟨S.nx, re.u ++ S.m⟩ γ' W' → RepD W'.cell? (Frz F ⟨S.nx, re.u ++ S.m⟩ γ' W') (St.get ⟨S.nx, re.u ++ S.m⟩) γ' re.d u → re.d.bnd (ins B fid) → next (a.put o.dst u) W') : o.wp P a W next Q := by
  unfold natE at he
  split at he
  · rename_i f d hcf
    cases hk : cfg.nt f with
    | none => rw [hk] at he; cases he
    | some k =>
      rw [hk] at he
      obtain ⟨vs, k1, k2, k3⟩ := callF_run rel.eval (natF_callF hcf)
      obtain ⟨hc, hcl⟩ := hnt f k hk
      simp only [RepDs] at k1
      obtain ⟨v, q, rfl, hv, rfl⟩ := k1
      unfold Oper.wp
      rw [k3 hc, Oper.upon_enter]
      refine (hcl rel.hp hf hv he).mono fun e W' hW => ?_
      obtain ⟨u, γ', rfl, q1, q2, q3, q4⟩ := hW
      exact hn u γ' W' q1 q2 q3 q4
  · cases he

theorem Rel.gdE (r : Rel F B env S γ a W) (x : Operand) (s : Nat) (w : Bool) (e : D) (h : evO env x = .gd s w e) (ht : a.eval (.tmp s) = .bool w) : RepD W.cell? (Frz F S γ W) S.get γ e (a.eval x) := by
  cases x with
  | tmp t =>
    have k := r.slots t
    rw [show getE env t = .gd s w e from evT_gd h] at k
    simp only [SlotRep] at k
    exact (k.1 ht).1
  | const v => exact absurd (constGd v) (by rw [show ofConst v = .gd s w e from h]; simp [D.isGd])
  | global g => simp [evO] at h
  | func f => simp [evO] at h
  where
  constGd (v : Value) : (ofConst v).isGd = false := by
    cases v with
    | int k n => simp only [ofConst]; split <;> rfl
    | string s => simp only [ofConst]; split <;> rfl
    | pointer a => cases a <;> rfl
    | slice a n c =>
      cases a with
      | none =>
        cases n with
        | zero => cases c <;> rfl
        | succ n => rfl
      | some a => rfl
    | _ => rfl

theorem beqF {a b : Nat} (h : a ≠ b) : Nat.beq a b = false := by
  cases e : Nat.beq a b with
  | false => rfl
  | true => exact absurd (Nat.eq_of_beq_eq_true e) h
theorem yield_at {ops : Array Oper} {j : Nat} {oj : Oper} {s : Nat} (h1 : ops[j]? = some oj) (h2 : oj.dst = some s) {tm : Array Value} (b : Bool) : (yielded ops tm j == some b) = true ↔ tm.getD s undef = .bool b := by
  have e : ((ops[j]?).bind (·.dst)).bind (tm[·]?) = tm[s]? := by rw [h1]; simp [h2]
  unfold yielded
  rw [e, Array.getD_eq_getD_getElem?]
  cases h : tm[s]? with
  | none => simp [undef]
  | some v => cases v <;> simp

/-- A guarded operation's slot. -/
theorem Rel.putGd (r : Rel F B env S γ a W) {t s : Nat} {w : Bool} {d : D} {v : Value} (hd : a.tmps.getD s undef = .bool w → RepD W.cell? (Frz F S γ W) S.get γ d v ∧ d.bnd B) (hu : a.tmps.getD s undef ≠ .bool w → v = undef) (h1 : t < F.n) (h2 : noGd env t = true) (hne : t ≠ s) :
    Rel F B ((t, .gd s w d) :: env) S γ (a.put (some t) v) W := by
  have hsz : t < a.tmps.size := by rw [r.size]; exact h1
  refine ⟨r.hp, fun k => ?_, r.defers, by simp [Act.put, r.size], fun k => ?_⟩
  · rw [getE_cons, put_get hsz]
    by_cases hk : t = k
    · rw [if_pos hk, if_pos hk]
      simp only [SlotRep]
      rw [put_get hsz, if_neg hne]
      exact ⟨hd, hu⟩
    · rw [if_neg hk, if_neg hk]
      have := r.slots k
      cases hg : getE env k with
      | gd q w e =>
        rw [hg] at this
        simp only [SlotRep] at this ⊢
        have hne := noGd_get h2 hg
        rw [put_get hsz, if_neg (Ne.symm hne)]
        exact this
      | kn q w =>
        rw [hg] at this
        simp only [SlotRep] at this ⊢
        have hne := noGd_get' h2 hg
        rw [put_get hsz, if_neg (Ne.symm hne)]
        exact this
      | _ => rw [hg] at this; simpa only [SlotRep] using this
  · rw [getE_cons]
    split
    · trivial
    · exact r.envB k

/-- If the chain's first guard holds, all do; and what 'guardB' tells is true. -/
theorem guard_holds (r : Rel F B env S γ a W) : ∀ {ch : List (Nat × Bool)} {b : Bool}, guardB env ch = some b → ∀ s w q, ch = (s, w) :: q → a.tmps.getD s undef = .bool w → b = true ∧ ∀ p ∈ ch, a.tmps.getD p.1 undef = .bool p.2
  | [], _, _, _, _, _, hq, _ => by cases hq
  | [(s, w)], b, h, s', w', q, hq, ht => by
    simp only [List.cons.injEq, Prod.mk.injEq] at hq
    obtain ⟨⟨rfl, rfl⟩, rfl⟩ := hq
    simp only [guardB] at h
    split at h
    · rename_i x hx
      simp only [Option.some.injEq] at h
      subst h
      have k := r.slots s
      rw [hx] at k
      simp only [SlotRep] at k
      have := of_bool k
      rw [ht] at this
      simp only [Value.bool.injEq] at this
      subst this
      refine ⟨by cases w <;> rfl, fun p hp => ?_⟩
      simp only [List.mem_singleton] at hp
      subst hp
      exact ht
    · cases h
  | (s, w) :: (s2, w2) :: q2, b, h, s', w', q, hq, ht => by
    simp only [List.cons.injEq, Prod.mk.injEq] at hq
    obtain ⟨⟨rfl, rfl⟩, rfl⟩ := hq
    simp only [guardB] at h
    split at h
    · rename_i k u x hx
      cases h1 : (Nat.beq k s2 && (u == w2)) with
      | false => rw [h1] at h; simp at h
      | true =>
        cases h2 : guardB env ((s2, w2) :: q2) with
        | none => rw [h1, h2] at h; simp at h
        | some b2 =>
          rw [h1, h2] at h
          simp only [Option.some.injEq] at h
          rw [Bool.and_eq_true] at h1
          have hk := Nat.eq_of_beq_eq_true h1.1
          have hu : u = w2 := by simpa using h1.2
          subst hk; subst hu
          have kk := r.slots s
          rw [hx] at kk
          simp only [SlotRep] at kk
          have hk2 : a.tmps.getD k undef = .bool u := by
            by_cases hc : a.tmps.getD k undef = .bool u
            · exact hc
            · have := kk.2 hc
              rw [ht] at this
              simp [undef] at this
          have := of_bool (kk.1 hk2).1
          rw [ht] at this
          simp only [Value.bool.injEq] at this
          subst this
          obtain ⟨g1, g2⟩ := guard_holds r h2 k u q2 rfl hk2
          refine ⟨by rw [← h, g1]; cases w <;> rfl, fun p hp => ?_⟩
          rcases List.mem_cons.1 hp with rfl | hp
          · exact ht
          · exact g2 p hp
    · cases h

theorem ung_ok (r : Rel F B env S γ a W) {ch : List (Nat × Bool)} (hall : ∀ p ∈ ch, a.tmps.getD p.1 undef = .bool p.2) (x : Operand) : RepD W.cell? (Frz F S γ W) S.get γ (ung ch (evO env x)) (a.eval x) ∧ (ung ch (evO env x)).bnd B := by
  obtain ⟨h1, h2⟩ := r.eval x
  cases hg : evO env x with
  | gd s w d =>
    simp only [ung]
    cases hc : ch.any (fun p => Nat.beq p.1 s && (p.2 == w)) with
    | false => exact ⟨by simp only [RepD], trivial⟩
    | true =>
      cases hd : d.isGd with
      | true => exact ⟨by simp only [RepD], trivial⟩
      | false =>
        obtain ⟨p, hp, hpe⟩ := List.any_eq_true.1 hc
        rw [Bool.and_eq_true] at hpe
        have e1 := Nat.eq_of_beq_eq_true hpe.1
        have e2 : p.2 = w := by simpa using hpe.2
        cases x with
        | tmp t =>
          have k := r.slots t
          rw [show getE env t = .gd s w d from evT_gd hg] at k
          simp only [SlotRep] at k
          refine k.1 ?_
          have := hall p hp
          rwa [e1, e2] at this
        | const v => exact absurd (Rel.gdE.constGd v) (by rw [show ofConst v = .gd s w d from hg]; simp [D.isGd])
        | global g => simp [evO] at hg
        | func f => simp [evO] at hg
  | _ => rw [hg] at h1 h2; exact ⟨h1, h2⟩
theorem ung_gd (r : Rel F B env S γ a W) {ch : List (Nat × Bool)} (x : Operand) (s : Nat) (w : Bool) (e : D) (h : ung ch (evO env x) = .gd s w e) (ht : a.eval (.tmp s) = .bool w) : RepD W.cell? (Frz F S γ W) S.get γ e (a.eval x) := by
  refine r.gdE x s w e ?_ ht
  cases hg : evO env x with
  | gd s' w' d =>
    rw [hg] at h
    simp only [ung] at h
    split at h
    · split at h
      · cases h
      · rename_i hd
        rw [h] at hd
        cases hd
    · exact h
  | _ => rw [hg] at h; simp [ung] at h

theorem Rel.mark (r : Rel F B env S γ a W) {s k : Nat} {w : Bool} (hk : F.n ≤ k) (h : a.tmps.getD s undef = .bool w) : Rel F B ((k, .kn s w) :: env) S γ a W := by
  refine ⟨r.hp, fun q => ?_, r.defers, r.size, fun q => ?_⟩
  · rw [getE_cons]
    split
    · simpa only [SlotRep] using h
    · exact r.slots q
  · rw [getE_cons]
    split
    · trivial
    · exact r.envB q

/-- Marks of what guards are. -/
def marksOK (a : Act) (ch : List (Nat × Bool)) (pe : Env) : Prop := ∀ q ∈ pe, ∃ p ∈ ch, ∃ u, q = (marks + p.1, D.kn p.1 u) ∧ a.tmps.getD p.1 undef = .bool u
theorem Rel.marksR {ch : List (Nat × Bool)} (hn : F.n ≤ marks) : ∀ {pe : Env}, marksOK a ch pe → Rel F B env S γ a W → Rel F B (pe ++ env) S γ a W
  | [], _, r => r
  | q :: pe, h, r => by
    obtain ⟨p, _, u, rfl, h2⟩ := h q List.mem_cons_self
    exact Rel.mark (Rel.marksR hn (fun q hq => h q (List.mem_cons_of_mem _ hq)) r) (by omega) h2
theorem marks_noGd {ch : List (Nat × Bool)} {t : Nat} (ht : ∀ p ∈ ch, t ≠ p.1) (h0 : noGd env t = true) : ∀ {pe : Env}, marksOK a ch pe → noGd (pe ++ env) t = true
  | [], _ => h0
  | q :: pe, h => by
    obtain ⟨p, hp, u, rfl, _⟩ := h q List.mem_cons_self
    have := marks_noGd ht h0 (fun q hq => h q (List.mem_cons_of_mem _ hq))
    simp only [noGd, List.cons_append, List.all_cons, Bool.and_eq_true] at this ⊢
    refine ⟨?_, this⟩
    simp only [Bool.not_eq_true']
    exact beqF (Ne.symm (ht p hp))

theorem resolveG_sem {α : Type} (rel : Rel F B env S γ a W) {ch0 : List (Nat × Bool)} : ∀ {ch : List (Nat × Bool)} {pe : Env} {yes no : Env → Option α} {r : α}, (∀ p ∈ ch, p ∈ ch0) → chainB env ch = true → resolveG env ch pe yes no = some r → marksOK a ch0 pe →
    ∃ pe', marksOK a ch0 pe' ∧ (((∀ p ∈ ch, a.tmps.getD p.1 undef = .bool p.2) ∧ yes pe' = some r) ∨ ((∃ s w q, ch = (s, w) :: q ∧ a.tmps.getD s undef ≠ .bool w) ∧ no pe' = some r))
  | [], pe, yes, no, r, _, _, h, hm => ⟨pe, hm, .inl ⟨(fun p hp => nomatch hp), h⟩⟩
  | (s, w) :: outer, pe, yes, no, r, hsub, hc, h, hm => by
    simp only [resolveG] at h
    have hc' : chainB env outer = true := by
      cases outer with
      | nil => rfl
      | cons p q => simp only [chainB, Bool.and_eq_true] at hc; exact hc.2
    obtain ⟨pe1, hm1, hcase⟩ := resolveG_sem rel (fun p hp => hsub p (List.mem_cons_of_mem _ hp)) hc' h hm
    rcases hcase with ⟨hall, hy⟩ | ⟨⟨s2, w2, q, rfl, hne⟩, hno⟩
    · have fin : ∀ {u : Bool}, a.tmps.getD s undef = .bool u → u = w → yes pe1 = some r → ∃ pe', marksOK a ch0 pe' ∧ (((∀ p ∈ (s, w) :: outer, a.tmps.getD p.1 undef = .bool p.2) ∧ yes pe' = some r) ∨ ((∃ s' w' q, (s, w) :: outer = (s', w') :: q ∧ a.tmps.getD s' undef ≠ .bool w') ∧ no pe' = some r)) := fun hu e hyes => ⟨pe1, hm1, .inl ⟨fun p hp => by
        rcases List.mem_cons.1 hp with rfl | hp
        · rw [hu, e]
        · exact hall p hp, hyes⟩⟩
      split at hy
      · rename_i k y hmark
        cases hks : Nat.beq k s with
        | false => rw [hks] at hy; simp at hy
        | true =>
          rw [hks] at hy
          have hk := Nat.eq_of_beq_eq_true hks
          subst hk
          have km := rel.slots (marks + k)
          rw [hmark] at km
          simp only [SlotRep] at km
          simp only at hy
          cases hyw : (y == w) with
          | true =>
            rw [hyw] at hy
            exact fin km (by simpa using hyw) hy
          | false =>
            rw [hyw] at hy
            have e : y ≠ w := by simpa using hyw
            exact ⟨pe1, hm1, .inr ⟨⟨k, w, outer, rfl, by rw [km]; simpa using e⟩, hy⟩⟩
      · split at hy
        · rename_i x hx
          have hts : a.tmps.getD s undef = .bool x := by
            unfold gval at hx
            split at hx
            · rename_i x' _ hg
              simp only [Option.some.injEq] at hx
              subst hx
              have k := rel.slots s
              rw [hg] at k
              simp only [SlotRep] at k
              exact of_bool k
            · rename_i k u x' ho hg
              simp only [Option.some.injEq] at hx
              subst hx
              cases outer with
              | nil => simp at ho
              | cons p q =>
                obtain ⟨s2, w2⟩ := p
                simp only [chainB, Bool.and_eq_true] at hc
                have hc1 := hc.1
                rw [hg] at hc1
                simp only [Bool.and_eq_true] at hc1
                have e1 := Nat.eq_of_beq_eq_true hc1.1
                have e2 : u = w2 := by simpa using hc1.2
                subst e1
                subst e2
                have k := rel.slots s
                rw [hg] at k
                simp only [SlotRep] at k
                exact of_bool (k.1 (hall _ List.mem_cons_self)).1
            · cases hx
          have hmk : ∀ u, a.tmps.getD s undef = .bool u → marksOK a ch0 ((marks + s, .kn s u) :: pe1) := fun u hu q hq => by
            rcases List.mem_cons.1 hq with rfl | hq
            · exact ⟨(s, w), hsub _ List.mem_cons_self, u, rfl, hu⟩
            · exact hm1 q hq
          by_cases hxw : x = w
          · have hwant : wantB x w = true := by rw [hxw]; cases w <;> rfl
            rw [hwant] at hy
            exact ⟨_, hmk w (hxw ▸ hts), .inl ⟨fun p hp => by
              rcases List.mem_cons.1 hp with rfl | hp
              · exact hxw ▸ hts
              · exact hall p hp, hy⟩⟩
          · have hwant : wantB x w = false := by cases x <;> cases w <;> simp_all [wantB]
            have hxe : x = !w := by cases x <;> cases w <;> simp_all
            rw [hwant] at hy
            exact ⟨_, hmk (!w) (hxe ▸ hts), .inr ⟨⟨s, w, outer, rfl, by rw [hts]; simpa using hxw⟩, hy⟩⟩
        · cases hy
    · refine ⟨pe1, hm1, .inr ⟨⟨s, w, _, rfl, ?_⟩, hno⟩⟩
      simp only [chainB, Bool.and_eq_true] at hc
      have hc1 := hc.1
      split at hc1
      · rename_i k u d hg
        rw [Bool.and_eq_true] at hc1
        have e1 := Nat.eq_of_beq_eq_true hc1.1
        have e2 : u = w2 := by simpa using hc1.2
        subst e1
        subst e2
        have k := rel.slots s
        rw [hg] at k
        simp only [SlotRep] at k
        rw [k.2 hne]
        simp [undef]
      · cases hc1
set_option maxHeartbeats 1000000 in
theorem runOp_ok {α : Type} {cfg : Cfg} (hP : cfg.P = P) (hfn : ∀ n, ∀ c ∈ cfg.fn n, CtrOK P n c) (hnt : ∀ n k, cfg.nt n = some k → NatOK P n k) (rel : Rel F B env S γ a W) (hf : ¬ B fid) {ops : Array Oper} {o : Oper} {r : α} {K : Env → St → Option α} (h : runOp cfg F.n ops fid o env S K = some r)
    {next : Act → World → Prop} {Q : Exit → Act → World → Prop} (hn : NextOK F B fid S γ W o.dst a r K next) :
    if Region.wanted o (yielded ops a.tmps) = true then o.wp P a W next Q else next (a.put o.dst undef) W := by
  unfold runOp at h
  split at h
  · cases h
  · rename_i hdst
    have hs : ∀ s, o.dst = some s → s < F.n ∧ noGd env s = true := by
      intro s hs
      rw [hs] at hdst
      simp only [gateB, Bool.and_eq_true] at hdst
      exact ⟨by have := hdst.1; rw [Nat.blt_eq] at this; exact this, hdst.2⟩
    clear hdst
    cases hg : guardChain ops 8 o with
    | none => rw [hg] at h; simp at h
    | some ch =>
      rw [hg] at h
      cases ch with
      | nil =>
        have hgd : o.guard = none := by
          simp only [guardChain] at hg
          cases hgo : o.guard with
          | none => rfl
          | some p =>
            rw [hgo] at hg
            simp only at hg
            split at hg
            · split at hg
              · simp at hg
              · cases hg
            · cases hg
        have hw : Region.wanted o (yielded ops a.tmps) = true := by simp [Region.wanted, hgd]
        rw [if_pos hw]
        simp only at h
        cases hab : arB cfg (evO env) o with
        | true =>
          rw [hab] at h
          simp only at h
          cases hne : arE cfg.P S.get fid (evO env) o with
          | none => rw [hne] at h; simp at h
          | some re =>
            rw [hne] at h
            simp only at h
            cases hgdd : re.d.isGd with
            | true => rw [hgdd] at h; simp at h
            | false =>
              rw [hgdd] at h
              cases hc : re.c with
              | false => rw [hc] at h; simp at h
              | true =>
                rw [hc] at h
                simp only [cond_true] at h
                refine exec_res (r := r) (K := K) rel (arE_ok rel.hp hf rel.eval (hP ▸ hne) hc) hs hgdd (fun env' S' γ' a' W' k8 k1 k2 k3 k9 => hn env' S' γ' a' W' (by rw [k3]) (fun k hk => k9 k (fun s hs e => hk (by rw [hs, e]))) k8 k1 ?_)
                rw [k2, k3]
                exact h
        | false =>
        rw [hab] at h
        simp only at h
        cases hnb : natB cfg (evO env) o with
        | true =>
          rw [hnb] at h
          simp only at h
          cases hne : natE cfg S.get fid (evO env) o with
          | none => rw [hne] at h; simp at h
          | some re =>
            rw [hne] at h
            simp only at h
            cases hgdd : re.d.isGd with
            | true => rw [hgdd] at h; simp at h
            | false =>
              rw [hgdd] at h
              cases hc : re.c with
              | false => rw [hc] at h; simp at h
              | true =>
                rw [hc] at h
                simp only [cond_true] at h
                refine exec_nat hnt rel hf hne (fun u γ' W' k1 k2 k3 k4 => ?_)
                have rel1 := k1.rel rel (fun _ h => .inl h) k2
                exact hn (putE env o.dst re.d) ⟨S.nx, re.u ++ S.m⟩ γ' _ W' rfl (oth_put _ _ _) k1 (rel1.put k3 k4 hs hgdd) h
        | false =>
        rw [hnb] at h
        simp only at h
        cases hcall : callOf cfg (evO env) o with
        | some p =>
          obtain ⟨args, cs⟩ := p
          rw [hcall] at h
          refine exec_call (r := r) hP hfn rel rel.eval hcall h (fun v d S' W' k1 k2 k3 k4 k5 k0 k6 => ?_)
          refine hn (putE env o.dst d) S' γ _ W' k0 (oth_put _ _ _) k1 ?_ k6
          have rel1 := k1.rel rel (fun _ h => h) k2
          have rel2 := rel1.put k3 k4 hs k5
          exact rel2.mono (fun _ h => .inl h)
        | none =>
          rw [hcall] at h
          simp only at h
          cases he : opE cfg.P S.get fid (evO env) o with
          | none => rw [he] at h; simp at h
          | some re =>
            rw [he] at h
            simp only at h
            cases hgdd : re.d.isGd with
            | true => rw [hgdd] at h; simp at h
            | false =>
              rw [hgdd] at h
              cases hc : re.c with
              | false => rw [hc] at h; simp at h
              | true =>
                rw [hc] at h
                simp only [cond_true] at h
                refine exec_plain (r := r) (K := K) rel hf rel.eval rel.gdE (hP ▸ he) hc hs hgdd (fun env' S' γ' a' W' k8 k1 k2 k3 k9 => hn env' S' γ' a' W' (by rw [k3]) (fun k hk => k9 k (fun s hs e => hk (by rw [hs, e]))) k8 k1 ?_)
                rw [k2, k3]
                exact h
      | cons p ch =>
        obtain ⟨s, w⟩ := p
        have hgd : ∃ j oj, o.guard = some (j, w) ∧ ops[j]? = some oj ∧ oj.dst = some s := by
          simp only [guardChain] at hg
          cases hgo : o.guard with
          | none => rw [hgo] at hg; simp at hg
          | some p =>
            obtain ⟨j, w'⟩ := p
            rw [hgo] at hg
            simp only at hg
            cases hoj : ops[j]? with
            | none => rw [hoj] at hg; simp at hg
            | some oj =>
              rw [hoj] at hg
              simp only at hg
              split at hg
              · rename_i s' r' hs' hr'
                simp only [Option.some.injEq, List.cons.injEq, Prod.mk.injEq] at hg
                obtain ⟨⟨rfl, rfl⟩, _⟩ := hg
                exact ⟨j, oj, rfl, hoj, hs'⟩
              · cases hg
        obtain ⟨j, oj, g1, g2, g3⟩ := hgd
        have hw : Region.wanted o (yielded ops a.tmps) = true ↔ a.tmps.getD s undef = .bool w := by
          rw [← yield_at g2 g3]
          simp [Region.wanted, g1]
        simp only at h
        cases hcall : callOf cfg (fun x => ung ((s, w) :: ch) (evO env x)) o with
        | some p =>
          obtain ⟨args, cs⟩ := p
          rw [hcall] at h
          simp only at h
          cases hdst : o.dst with
          | none => rw [hdst] at h; simp at h
          | some t =>
            rw [hdst] at h
            simp only at h
            obtain ⟨t1, t2⟩ := hs t hdst
            split at h
            · rename_i dz hgate hpick
              rw [Bool.and_eq_true, Bool.and_eq_true] at hgate
              obtain ⟨⟨hchain, hall0⟩, hbig⟩ := hgate
              have hbig := Nat.le_of_ble_eq_true hbig
              have htne : ∀ p ∈ (s, w) :: ch, t ≠ p.1 := fun p hp => by
                have := List.all_eq_true.1 hall0 p hp
                simp only [Bool.not_eq_true'] at this
                exact Nat.ne_of_beq_eq_false this
              have hne : t ≠ s := htne (s, w) List.mem_cons_self
              obtain ⟨pe, hm, hcase⟩ := resolveG_sem rel (ch0 := (s, w) :: ch) (fun _ h => h) hchain h (fun q hq => by cases hq)
              have rel1 := rel.marksR hbig hm
              have hno := marks_noGd htne t2 hm
              rcases hcase with ⟨hall, hy⟩ | ⟨⟨s', w', q, e, hts⟩, hy⟩
              · rw [if_pos (hw.2 (hall (s, w) List.mem_cons_self))]
                refine exec_call (r := r) hP hfn rel (ung_ok rel hall) hcall hy (fun v d S' W' k1 k2 k3 k4 k5 k0 k6 => ?_)
                rw [hdst]
                refine hn _ S' γ _ W' k0 (hdst ▸ oth_put _ _ _) k1 ?_ k6
                have rel2 := k1.rel rel1 (fun _ h => h) k2
                exact (rel2.put (dst := some t) k3 k4 (fun t' ht' => by cases ht'; exact ⟨t1, hno⟩) k5).mono (fun _ h => .inl h)
              · simp only [List.cons.injEq, Prod.mk.injEq] at e
                obtain ⟨⟨rfl, rfl⟩, _⟩ := e
                rw [if_neg (fun q => hts (hw.1 q))]
                refine hn _ S γ _ W rfl (hdst ▸ oth_put _ _ _) (Stp.refl F B S γ W) ?_ hy
                exact (rel1.putGd (fun e => absurd e hts) (fun _ => rfl) t1 hno hne).mono (fun _ h => .inl h)
            · cases h
        | none =>
          rw [hcall] at h
          simp only at h
          split at h
          · rename_i c d b he hb
            split at h
            · rename_i t ht
              cases hts0 : Nat.beq t s with
              | true => rw [hts0] at h; simp at h
              | false =>
              rw [hts0] at h
              simp only at h
              cases hcond : (c || !b) with
              | false => rw [hcond] at h; simp at h
              | true =>
                rw [hcond] at h
                simp only [cond_true] at h
                obtain ⟨t1, t2⟩ := hs t ht
                have hne : t ≠ s := Nat.ne_of_beq_eq_false hts0
                by_cases hwd : Region.wanted o (yielded ops a.tmps) = true
                · rw [if_pos hwd]
                  have hts := hw.1 hwd
                  obtain ⟨hb1, hall⟩ := guard_holds rel hb s w ch rfl hts
                  subst hb1
                  have hc : c = true := by simpa using hcond
                  subst hc
                  obtain ⟨nxt, W', γ', h1, h2, h3, h4, h5⟩ := opE_ok rel.hp hf (ung_ok rel hall) (ung_gd rel) (hP ▸ he) rfl
                  have rel' : Rel F (ins B fid) env S γ' a W' := h3.rel rel (fun _ h => .inl h) h4
                  unfold Oper.wp
                  rw [h1]
                  rcases h2 with ⟨v, rfl, hv⟩ | ⟨rfl, hj⟩
                  · rw [Oper.upon_value, ht]
                    exact hn _ _ _ _ _ rfl (ht ▸ oth_put _ _ _) h3 (rel'.putGd (fun _ => ⟨hv, h5⟩) (fun e => absurd hts e) t1 t2 hne) h
                  · rw [Oper.upon_skip, ht]
                    refine hn _ _ _ _ _ rfl (ht ▸ oth_put _ _ _) h3 (rel'.putGd (fun _ => ⟨?_, h5⟩) (fun _ => rfl) t1 t2 hne) h
                    simp only at hj
                    rw [hj]
                    simp only [RepD]
                · rw [if_neg hwd, ht]
                  have hts : a.tmps.getD s undef ≠ .bool w := fun e => hwd (hw.2 e)
                  have := (rel.putGd (t := t) (s := s) (w := w) (d := d) (v := undef) (fun e => absurd e hts) (fun _ => rfl) t1 t2 hne)
                  exact hn _ _ _ _ _ rfl (ht ▸ oth_put _ _ _) (Stp.refl F B S γ W) (this.mono (fun _ h => .inl h)) h
            · cases h
          · rename_i c d x u he
            split at h
            · rename_i t ht
              obtain ⟨t1, t2⟩ := hs t ht
              split at h
              · rename_i hgate
                simp only [Bool.and_eq_true, Bool.not_eq_true'] at hgate
                obtain ⟨⟨⟨⟨hal, hgdd⟩, hchain⟩, hall0⟩, hbig⟩ := hgate
                have hbig := Nat.le_of_ble_eq_true hbig
                have htne : ∀ p ∈ (s, w) :: ch, t ≠ p.1 := fun p hp => by
                  have := List.all_eq_true.1 hall0 p hp
                  simp only [Bool.not_eq_true'] at this
                  exact Nat.ne_of_beq_eq_false this
                have hne : t ≠ s := htne (s, w) List.mem_cons_self
                obtain ⟨pe, hm, hcase⟩ := resolveG_sem rel (ch0 := (s, w) :: ch) (fun _ h => h) hchain h (fun q hq => by cases hq)
                have rel1 := rel.marksR hbig hm
                have hno := marks_noGd htne t2 hm
                rcases hcase with ⟨hall, hy⟩ | ⟨⟨s', w', q, e, hts⟩, hy⟩
                · rw [if_pos (hw.2 (hall (s, w) List.mem_cons_self))]
                  cases hc : c with
                  | false => rw [hc] at hy; simp at hy
                  | true =>
                    rw [hc] at hy
                    simp only [cond_true] at hy
                    refine exec_plain (r := r) (K := K) (env := pe ++ env) rel1 hf (ung_ok rel hall) (ung_gd rel) (hP ▸ he) hc (fun t' ht' => by rw [ht] at ht'; cases ht'; exact ⟨t1, hno⟩) hgdd (fun env' S' γ' a' W' k8 k1 k2 k3 k9 => hn env' S' γ' a' W' (by rw [k3]) (fun k hk => k9 k (fun s hs e => hk (by rw [hs, e]))) k8 k1 ?_)
                    rw [k2, k3, ht]
                    exact hy
                · simp only [List.cons.injEq, Prod.mk.injEq] at e
                  obtain ⟨⟨rfl, rfl⟩, _⟩ := e
                  rw [if_neg (fun q => hts (hw.1 q)), ht]
                  refine hn _ S γ _ W rfl (ht ▸ oth_put _ _ _) (Stp.refl F B S γ W) ?_ hy
                  exact (rel1.putGd (fun e => absurd e hts) (fun _ => rfl) t1 hno hne).mono (fun _ h => .inl h)
              · cases h
            · cases h
          · cases h
end
end Go.XD


/- Slices that are frozen where they stand. -/
namespace Go.XD

section
variable {F : Fm} {B : Nat → Prop} {env : Env} {S : St} {γ : Gam} {a : Act} {W : World}

theorem froM_get (look : Nat → Option Ob) (ids : List Nat) : ∀ (m : List (Nat × Option Ob)) (id : Nat), getM (froM look ids m) id = (getM m id).map (froOb look ids)
  | [], id => rfl
  | (k, o) :: r, id => by
    cases o <;> simp only [froM] <;> rw [getM_cons, getM_cons] <;> split <;> first | rfl | exact froM_get look ids r id
theorem froS_get (S : St) (ids : List Nat) (id : Nat) : (froS S ids).get id = if id ∈ ids then none else (S.get id).map (froOb S.get ids) := by
  unfold froS St.get
  simp only
  rw [froM_get, rm_get]
  split <;> rfl
theorem fro_like (look : Nat → Option Ob) (ids : List Nat) (ob : Ob) : like ob (froOb look ids ob) := by
  cases ob with
  | arr c xs h => cases h <;> simp [like, froOb]
  | _ => simp [like, froOb]

mutual
theorem fro_bnd {look : Nat → Option Ob} {ids : List Nat} : ∀ {d : D}, d.bnd B → (fro look ids d).bnd B
  | .sf id, k => by
    simp only [fro]
    split
    · trivial
    · split
      · trivial
      · exact k
    · exact k
  | .ptr id off, k => by
    simp only [fro]
    split
    · split
      · trivial
      · exact k
    · split
      · trivial
      · exact k
    · exact k
  | .ag ds, k => by simp only [fro]; exact mkAg_bnd (fros_bnd k)
  | .tup ds, k => by simp only [fro, D.bnd] at k ⊢; exact fros_bnd k
  | .clo f ds, k => by simp only [fro, D.bnd] at k ⊢; exact fros_bnd k
  | .bp _ _ _, k => k
  | .gd _ _ _, _ => trivial
  | .kn _ _, _ => trivial
  | .junk, _ => trivial
  | .fz _ _, _ => trivial
  | .fp _ _ _, _ => trivial
  | .nilp, _ => trivial
  | .nils, _ => trivial
  | .nt _, _ => trivial
  | .ifc _ d, k => k
  | .stp _, _ => trivial
theorem fros_bnd {look : Nat → Option Ob} {ids : List Nat} : ∀ {ds : List D}, bnds B ds → bnds B (fros look ids ds)
  | [], _ => trivial
  | d :: ds, k => by simp only [fros, bnds] at k ⊢; exact ⟨fro_bnd k.1, fros_bnd k.2⟩
end

theorem Hp.froStp (hp : Hp F B S γ W) (ids : List Nat) : Stp F B S γ W (froS S ids) γ W := by
  refine ⟨fun id hid ob' ho => ?_, rfl, rfl, rfl, Nat.le_refl _, fun b hb _ => rfl, fun b hb => ?_⟩
  · rw [froS_get] at ho
    split at ho
    · cases ho
    · cases h : S.get id with
      | none => rw [h] at ho; simp at ho
      | some ob =>
        rw [h] at ho
        simp only [Option.map_some, Option.some.injEq] at ho
        subst ho
        exact ⟨ob, rfl, fro_like _ _ _, rfl⟩
  · obtain ⟨id, o, c, h1, h2⟩ := hb
    rw [froS_get] at h1
    split at h1
    · cases h1
    · cases h : S.get id with
      | none => rw [h] at h1; simp at h1
      | some ob => exact .inl ⟨id, ob, c, h, h2⟩
theorem fro_frz {ids : List Nat} {b : Nat} (h : Frz F (S.rm ids) γ W b) : Frz F (froS S ids) γ W b := by
  refine ⟨h.1, h.2.1, fun ht => h.2.2 ?_⟩
  obtain ⟨id, o, c, h1, h2⟩ := ht
  rw [froS_get] at h1
  split at h1
  · cases h1
  · rename_i hn
    cases hg : S.get id with
    | none => rw [hg] at h1; simp at h1
    | some ob => exact ⟨id, ob, c, by rw [St.rm_get, if_neg hn]; exact hg, h2⟩

theorem fros_mk {cell : Addr → Option Value} {G : Nat → Prop} {get : Nat → Option Ob} {γ : Gam} : ∀ {ds : List D} {y : TV} {vs : List Value}, mkTV ds = some y → RepDs cell G get γ ds vs → RepC cell G y.t y.x (fun j => vs[j]?) := fun {ds y vs} hy h => by
  have h2 := mkAg_rep h
  unfold mkAg at h2
  rw [hy] at h2
  simp only [RepD] at h2
  unfold RepV at h2
  rw [if_pos (by rfl)] at h2
  obtain ⟨cs, e1, e2, e3⟩ := h2
  simp only [Value.agg.injEq] at e1
  subst e1
  refine RepC.congr (fun j _ => ?_) (show RepC cell G y.t y.x (fun j => vs.toArray[j]?) from e3)
  simp
mutual
theorem fro_rep (hp : Hp F B S γ W) (ids : List Nat) : ∀ {d : D} {v : Value}, d.bnd B → RepD W.cell? (Frz F S γ W) S.get γ d v → RepD W.cell? (Frz F (froS S ids) γ W) (froS S ids).get γ (fro S.get ids d) v
  | .sf id, v, hb, r => by
    have hm := (hp.froStp ids).repD hb r
    simp only [fro]
    split
    · rename_i e xs h1 h2
      have hc : conv S.get (.lst e) (.sf id) = some xs := by simp [conv, h2, castT]
      have hid : id ∈ ids := by
        obtain ⟨y, k1, k2⟩ := List.any_eq_true.1 h1
        exact Nat.eq_of_beq_eq_true k2 ▸ k1
      simp only [RepD]
      refine conv_rep (G' := Frz F (froS S ids) γ W) (fun _ _ h => h) hp (fun b hb => (hp.froStp ids).frz hb) hc r (fun i hi hne g c hg => ?_)
      simp only [idsT, List.mem_singleton] at hi
      subst hi
      exact fro_frz (hp.frozen hid h2 hg)
    · rename_i c xs h1 h2
      have hid : id ∈ ids := by
        obtain ⟨y, k1, k2⟩ := List.any_eq_true.1 h1
        exact Nat.eq_of_beq_eq_true k2 ▸ k1
      split
      · rename_i y hy
        have hq := arr_pack h2 (hp.obs id _ h2) r
        unfold frzQ at hy
        split at hy
        · rename_i t' ht
          simp only [Option.some.injEq] at hy
          subst hy
          simp only [RepD]
          refine leaf_vone (arr_ty ht) (frz_rep (G' := Frz F (froS S ids) γ W) (fun b hb => (hp.froStp ids).frz hb) ht hq (fun o ho q hq => ?_)).1
          simp only [List.mem_singleton] at ho
          subst ho
          exact fro_frz (hp.frozen (c := q.2) hid h2 hq)
        · cases hy
      · exact hm
    · exact hm
  | .ag ds, v, hb, r => by
    simp only [D.bnd] at hb
    simp only [RepD] at r
    obtain ⟨vs, rfl, h⟩ := r
    simp only [fro]
    exact mkAg_rep (fros_rep hp ids hb h)
  | .tup ds, v, hb, r => by
    simp only [D.bnd] at hb
    simp only [fro, RepD] at r ⊢
    obtain ⟨vs, rfl, h⟩ := r
    exact ⟨vs, rfl, fros_rep hp ids hb h⟩
  | .clo f ds, v, hb, r => by
    simp only [D.bnd] at hb
    simp only [fro, RepD] at r ⊢
    obtain ⟨vs, rfl, h⟩ := r
    exact ⟨vs, rfl, fros_rep hp ids hb h⟩
  | .ptr id off, v, hb, r => by
    have hm := (hp.froStp ids).repD hb r
    simp only [fro]
    split
    · rename_i ds h1 h2
      split
      · rename_i y hy
        simp only [RepD] at r ⊢
        rw [h2] at r
        obtain ⟨_, g, c, hg, rfl⟩ := r
        have hid : id ∈ ids := by
          obtain ⟨y, k1, k2⟩ := List.any_eq_true.1 h1
          exact Nat.eq_of_beq_eq_true k2 ▸ k1
        obtain ⟨g', c', vs, t, e1, e2, e3⟩ := hp.obs id _ h2
        have e1h := hd_one e1
        rw [hg] at e1h
        simp only [Option.some.injEq, Prod.mk.injEq] at e1h
        obtain ⟨rfl, rfl⟩ := e1h
        have e4 := fros_mk hy e3
        refine ⟨⟨g, 0, none⟩, trivial, fro_frz (hp.frozen hid h2 (hd_mem hg)), ?_, ?_⟩
        · refine (e4.mono (G' := Frz F (froS S ids) γ W) (fun _ _ => rfl) (fun b hb => (hp.froStp ids).frz hb)).congr (fun j _ => ?_)
          rw [add_eq _ rfl]
          simp [World.cell?, e2]
        · rw [add_eq _ rfl, Nat.zero_add]
      · exact hm
    · rename_i c x h1 h2
      have hid : id ∈ ids := by
        obtain ⟨y, k1, k2⟩ := List.any_eq_true.1 h1
        exact Nat.eq_of_beq_eq_true k2 ▸ k1
      split
      · rename_i y hy
        have hq := opt_pack h2 (hp.obs id _ h2) r
        unfold frzQ at hy
        split at hy
        · rename_i t' ht
          simp only [Option.some.injEq] at hy
          subst hy
          simp only [RepD]
          refine leaf_vone (opt_ty ht) (frz_rep (G' := Frz F (froS S ids) γ W) (fun b hb => (hp.froStp ids).frz hb) ht hq (fun o ho q hq => ?_)).1
          simp only [List.mem_singleton] at ho
          subst ho
          exact fro_frz (hp.frozen (c := q.2) hid h2 hq)
        · cases hy
      · exact hm
    · exact hm
  | .bp _ _ _, v, hb, r => (hp.froStp ids).repD hb r
  | .gd _ _ _, v, hb, r => (hp.froStp ids).repD hb r
  | .kn _ _, v, hb, r => (hp.froStp ids).repD hb r
  | .junk, v, hb, r => (hp.froStp ids).repD hb r
  | .fz _ _, v, hb, r => (hp.froStp ids).repD hb r
  | .fp _ _ _, v, hb, r => (hp.froStp ids).repD hb r
  | .nilp, v, hb, r => (hp.froStp ids).repD hb r
  | .nils, v, hb, r => (hp.froStp ids).repD hb r
  | .nt _, v, hb, r => (hp.froStp ids).repD hb r
  | .ifc _ _, v, hb, r => (hp.froStp ids).repD hb r
  | .stp _, v, hb, r => (hp.froStp ids).repD hb r
theorem fros_rep (hp : Hp F B S γ W) (ids : List Nat) : ∀ {ds : List D} {vs : List Value}, bnds B ds → RepDs W.cell? (Frz F S γ W) S.get γ ds vs → RepDs W.cell? (Frz F (froS S ids) γ W) (froS S ids).get γ (fros S.get ids ds) vs
  | [], vs, hb, r => by simp only [fros, RepDs] at r ⊢; exact r
  | d :: ds, vs, hb, r => by
    simp only [bnds] at hb
    simp only [fros, RepDs] at r ⊢
    obtain ⟨v, q, h1, h2, h3⟩ := r
    exact ⟨v, q, h1, fro_rep hp ids hb.1 h2, fros_rep hp ids hb.2 h3⟩
end

theorem Hp.fro (hp : Hp F B S γ W) (ids : List Nat) : Hp F B (froS S ids) γ W := by
  have hst := hp.froStp ids
  have hof : ∀ id ob, (froS S ids).get id = some ob → ∃ ob0, S.get id = some ob0 ∧ ob = froOb S.get ids ob0 := fun id ob h => by
    rw [froS_get] at h
    split at h
    · cases h
    · cases hg : S.get id with
      | none => rw [hg] at h; simp at h
      | some ob0 =>
        rw [hg] at h
        simp only [Option.map_some, Option.some.injEq] at h
        exact ⟨ob0, rfl, h.symm⟩
  refine hst.hp hp (fun _ h => h) (fun id ob ho => ?_) (fun id id' ob ob' g c c' h1 h2 h3 h4 => ?_) (fun id ob ho => by obtain ⟨ob0, h1, _⟩ := hof id ob ho; exact hp.nd id ob0 h1) (fun id ob ho => ?_)
  · obtain ⟨ob0, h1, rfl⟩ := hof id ob ho
    have hr := hst.ob hp h1 rfl (fun _ _ _ => rfl)
    cases ob0 with
    | buf e xs => exact hr
    | opt c x => exact hr
    | mp k e es n => exact hr
    | bh e xs i off d =>
      have hB := (hp.obsB id _ h1).2
      simp only [Ob.dsOf, bnds] at hB
      obtain ⟨g, c, vs, t, v, u, k1, k2, k3, k4, k5, k6, k7, k8, k9, k10⟩ := hr
      obtain ⟨g', c', vs', t', v', u', j1, j2, j3, j4, j5, j6, j7, j8, j9, j10⟩ := hp.obs id _ h1
      exact ⟨g', c', vs', t', v', u', j1, j2, j3, j4, j5, j6, j7, j8, fro_rep hp ids hB.1 j9, fun i x hx => (j10 i x hx).mono (fun _ _ => rfl) (fun b hb => hst.frz hb)⟩
    | arr c xs hl =>
      cases hl with
      | none => exact hr
      | some q =>
        obtain ⟨k, d⟩ := q
        have hB := (hp.obsB id _ h1).2
        simp only [Ob.dsOf, bnds] at hB
        simp only [froOb]
        rcases hr with ⟨_, _, e⟩ | ⟨g, cap, us, t, bls, k1, k2, k3, k4, k5, k6, k7⟩
        · cases e
        · have hr0 := hp.obs id _ h1
          rcases hr0 with ⟨_, _, e⟩ | ⟨g', cap', us', t', bls', j1, j2, j3, j4, j5, j6, j7⟩
          · cases e
          · refine .inr ⟨g', cap', us', t', bls', j1, j2, j3, j4, j5, j6, fun i x hx => ?_⟩
            obtain ⟨v, b, q1, q2, q3⟩ := j7 i x hx
            exact ⟨v, b, q1, q2, fun e => ⟨(q3.1 e).1, fro_rep hp ids hB.1 (q3.1 e).2⟩, fun e => RepQ.keep (fun _ _ => rfl) (fun b hb => hst.frz hb) (fun _ _ _ _ => rfl) (q3.2 e)⟩
    | cells ds =>
      obtain ⟨g, c, vs, t, k1, k2, k3⟩ := hp.obs id _ h1
      exact ⟨g, c, vs, t, k1, k2, fros_rep hp ids ((hp.obsB id _ h1).2) k3⟩
  · obtain ⟨o1, k1, _⟩ := hof id ob h1
    obtain ⟨o2, k2, _⟩ := hof id' ob' h2
    exact hp.inj id id' o1 o2 g c c' k1 k2 h3 h4
  · obtain ⟨ob0, h1, rfl⟩ := hof id ob ho
    refine ⟨(hp.obsB id ob0 h1).1, ?_⟩
    have hB := (hp.obsB id _ h1).2
    cases ob0 with
    | buf _ _ => trivial
    | opt _ _ => trivial
    | mp _ _ _ _ => trivial
    | bh _ _ _ _ _ =>
      simp only [Ob.dsOf, bnds] at hB
      simp only [froOb, Ob.dsOf, bnds]
      exact ⟨fro_bnd hB.1, trivial⟩
    | cells ds0 => exact fros_bnd hB
    | arr c xs hl =>
      cases hl with
      | none => trivial
      | some q =>
        simp only [Ob.dsOf, bnds] at hB
        simp only [froOb, Ob.dsOf, bnds]
        exact ⟨fro_bnd hB.1, trivial⟩

theorem froE_get (look : Nat → Option Ob) (ids : List Nat) : ∀ (env : Env) (s : Nat), getE (froE look ids env) s = fro look ids (getE env s)
  | [], s => rfl
  | (k, d) :: r, s => by
    simp only [froE]
    rw [getE_cons, getE_cons]
    split
    · rfl
    · exact froE_get look ids r s

theorem Rel.fro (r : Rel F B env S γ a W) (ids : List Nat) : Rel F B (froE S.get ids env) (froS S ids) γ a W ∧ Stp F B S γ W (froS S ids) γ W := by
  have hst := r.hp.froStp ids
  refine ⟨⟨r.hp.fro ids, fun s => ?_, r.defers, r.size, fun s => ?_⟩, hst⟩
  · rw [froE_get]
    have h1 := r.slots s
    have h2 := r.envB s
    have h3 := hst.slot h2 h1
    cases hd : getE env s with
    | gd s' w d => rw [hd] at h3; simpa only [XD.fro] using h3
    | kn s' w => rw [hd] at h3; simpa only [XD.fro] using h3
    | sf id =>
      rw [hd] at h1 h2
      simp only [SlotRep] at h1
      have := fro_rep r.hp ids h2 h1
      have hng : (XD.fro S.get ids (.sf id)).isGd = false := by
        simp only [XD.fro]
        split
        · rfl
        · split <;> rfl
        · rfl
      revert this hng
      cases XD.fro S.get ids (.sf id) <;> simp [SlotRep, D.isGd]
    | ptr id off =>
      rw [hd] at h1 h2
      simp only [SlotRep] at h1
      have := fro_rep r.hp ids h2 h1
      have hng : (XD.fro S.get ids (.ptr id off)).isGd = false := by
        simp only [XD.fro]
        split
        · split <;> rfl
        · split <;> rfl
        · rfl
      revert this hng
      cases XD.fro S.get ids (.ptr id off) <;> simp [SlotRep, D.isGd]
    | ag ds =>
      rw [hd] at h1 h2
      simp only [SlotRep] at h1
      have := fro_rep r.hp ids h2 h1
      have hng : (XD.fro S.get ids (.ag ds)).isGd = false := by
        simp only [XD.fro, mkAg]
        split <;> rfl
      revert this hng
      cases XD.fro S.get ids (.ag ds) <;> simp [SlotRep, D.isGd]
    | tup ds =>
      rw [hd] at h1 h2
      simp only [SlotRep] at h1
      have := fro_rep r.hp ids h2 h1
      simpa only [XD.fro, SlotRep] using this
    | clo f ds =>
      rw [hd] at h1 h2
      simp only [SlotRep] at h1
      have := fro_rep r.hp ids h2 h1
      simpa only [XD.fro, SlotRep] using this
    | _ => rw [hd] at h3; simpa only [XD.fro, SlotRep] using h3
  · rw [froE_get]
    exact fro_bnd (r.envB s)
end
end Go.XD


/- Regions in the order of the text; code. -/
namespace Go.XD

section
variable {P : Program} {F : Fm}

/-- Bound by a number. -/
def lt (n : Nat) : Nat → Prop := fun id => id < n

theorem Rel.ext {B : Nat → Prop} {env env' : Env} {S S' : St} {γ : Gam} {a : Act} {W : World} (r : Rel F B env S γ a W) (he : ∀ s, getE env' s = getE env s) (hS : ∀ id, S'.get id = S.get id) : Rel F B env' S' γ a W := by
  have hg : S'.get = S.get := funext hS
  have ht : tracked S' γ = tracked S γ := by funext b; unfold tracked; rw [hg]
  have hf : Frz F S' γ W = Frz F S γ W := by funext b; unfold Frz; rw [ht]
  refine ⟨⟨?_, ?_, ?_, ?_, r.hp.kept, ?_⟩, fun s => ?_, r.defers, r.size, fun s => ?_⟩
  · rw [hg, hf]; exact r.hp.obs
  · rw [hg]; exact r.hp.inj
  · rw [hg]; exact r.hp.nd
  · rw [ht]; exact r.hp.trk
  · rw [hg]; exact r.hp.obsB
  · rw [hg, hf, he]; exact r.slots s
  · rw [he]; exact r.envB s

/-- All slots but these are as they were. -/
def Same (ws : List Nat) (a a' : Act) : Prop := ∀ s, s ∉ ws → a'.tmps.getD s undef = a.tmps.getD s undef
theorem Same.refl (ws : List Nat) (a : Act) : Same ws a a := fun _ _ => rfl
theorem Same.trans {ws : List Nat} {a b c : Act} (h : Same ws a b) (k : Same ws b c) : Same ws a c := fun s hs => (k s hs).trans (h s hs)
theorem Same.mono {ws ws' : List Nat} {a b : Act} (h : Same ws a b) (k : ∀ s, s ∈ ws → s ∈ ws') : Same ws' a b := fun s hs => h s (fun hm => hs (k s hm))

theorem Stp.weak {B B' : Nat → Prop} {S S' : St} {γ γ' : Gam} {W W' : World} (h : Stp F B S γ W S' γ' W') (hB : ∀ id, B' id → B id) : Stp F B' S γ W S' γ' W' :=
  ⟨fun id hid => h.hold id (hB id hid), h.os, h.tape, h.output, h.size, h.block, h.trk⟩
theorem Stp.ext {B : Nat → Prop} {S S1 S' S1' : St} {γ γ' : Gam} {W W' : World} (h : Stp F B S γ W S' γ' W') (h1 : ∀ id, S1.get id = S.get id) (h2 : ∀ id, S1'.get id = S'.get id) : Stp F B S1 γ W S1' γ' W' := by
  have e1 : tracked S1 γ = tracked S γ := by funext b; unfold tracked; rw [show S1.get = S.get from funext h1]
  have e2 : tracked S1' γ' = tracked S' γ' := by funext b; unfold tracked; rw [show S1'.get = S'.get from funext h2]
  refine ⟨fun id hid ob ho => ?_, h.os, h.tape, h.output, h.size, fun b hb => ?_, fun b => ?_⟩
  · rw [h2] at ho
    rw [h1]
    exact h.hold id hid ob ho
  · rw [e1]; exact h.block b hb
  · rw [e1, e2]; exact h.trk b

/-- A callee's own run tells what it does. -/
def InlOK (P : Program) (f : FuncId) (I : Inl) : Prop := ∀ (α : Type) (F : Fm) (S : St) (γ : Gam) (W : World) (args : List D) (vs : List Value) (K : D → St → Option α) (r : α),
  Hp F (lt S.nx) S γ W → RepDs W.cell? (Frz F S γ W) S.get γ args vs → bnds (lt S.nx) args → I α args S K = some r →
    Callable P f ∧ Calls P f vs.toArray W fun e W' => ∃ v d S' γ', e = .returned v ∧ S.nx ≤ S'.nx ∧ Stp F (lt S.nx) S γ W S' γ' W' ∧ Hp F (lt S'.nx) S' γ' W' ∧ RepD W'.cell? (Frz F S' γ' W') S'.get γ' d v ∧ d.bnd (lt S'.nx) ∧ K d S' = some r
structure CfgOK (P : Program) (cfg : Cfg) : Prop where
  pg : cfg.P = P
  fn : ∀ n, ∀ c ∈ cfg.fn n, CtrOK P n c
  inl : ∀ n I, cfg.inl n = some I → InlOK P n I
  nt : ∀ n k, cfg.nt n = some k → NatOK P n k

theorem runOpI_ok {α : Type} {cfg : Cfg} (hC : CfgOK P cfg) {env : Env} {S : St} {γ : Gam} {a : Act} {W : World} (rel : Rel F (lt S.nx) env S γ a W) {ops : Array Oper} {o : Oper} {r : α} {K : Env → St → Option α} (h : runOpI cfg F.n ops o env S K = some r)
    {next : Act → World → Prop} {Q : Exit → Act → World → Prop} (hn : ∀ env' S' γ' a' W', S.nx ≤ S'.nx → Oth o.dst a a' → Stp F (lt S.nx) S γ W S' γ' W' → Rel F (lt S'.nx) env' S' γ' a' W' → K env' S' = some r → next a' W') :
    if Region.wanted o (yielded ops a.tmps) = true then o.wp P a W next Q else next (a.put o.dst undef) W := by
  unfold runOpI at h
  split at h
  · rename_i I args hi
    unfold inlOf at hi
    split at hi
    · cases hi
    · rename_i hg
      rw [if_pos (by simp [Region.wanted, hg])]
      cases hcall : callI cfg (evO env) o with
      | none => rw [hcall] at hi; simp at hi
      | some p =>
        obtain ⟨f, args'⟩ := p
        rw [hcall] at hi
        simp only at hi
        cases hI : cfg.inl f with
        | none => rw [hI] at hi; simp at hi
        | some I' =>
          rw [hI] at hi
          simp only [Option.some.injEq, Prod.mk.injEq] at hi
          obtain ⟨rfl, rfl⟩ := hi
          cases hgate : gateB F.n env o.dst with
          | false => rw [hgate] at h; simp at h
          | true =>
            rw [hgate] at h
            simp only at h
            have hs : ∀ s, o.dst = some s → s < F.n ∧ noGd env s = true := by
              intro s hs
              rw [hs] at hgate
              simp only [gateB, Bool.and_eq_true] at hgate
              exact ⟨by have := hgate.1; rw [Nat.blt_eq] at this; exact this, hgate.2⟩
            obtain ⟨vs, h1, h2, h3⟩ := callI_run (P := P) hC.pg rel.eval hcall
            obtain ⟨h4, h5⟩ := hC.inl f I' hI α F S γ W args' vs _ r rel.hp h1 h2 h
            unfold Oper.wp
            rw [h3 h4, Oper.upon_enter]
            refine h5.mono fun e W' hW => ?_
            obtain ⟨v, d, S', γ', rfl, k1, k2, k3, k4, k5, k6⟩ := hW
            cases hd : d.isGd with
            | true => rw [hd] at k6; simp at k6
            | false =>
              rw [hd] at k6
              simp only at k6
              have hle : ∀ id, lt S.nx id → lt S'.nx id := fun id hid => by
                unfold lt at *
                omega
              exact hn (putE env o.dst d) S' γ' _ W' k1 (oth_put _ _ _) k2 ((k2.rel rel hle k3).put k4 k5 hs hd) k6
  · have hlt : ∀ id, ins (lt S.nx) S.nx id → lt (S.nx + 1) id := fun id hid => by
      unfold ins lt at *
      omega
    exact runOp_ok hC.pg hC.fn hC.nt (rel.ext (S' := ⟨S.nx + 1, S.m⟩) (fun _ => rfl) (fun _ => rfl)) (fid := S.nx) (by simp [lt]) h (fun env' S' γ' a' W' hnx hoth hst rel' hk => by
      simp only at hnx
      refine hn env' S' γ' a' W' (by omega) hoth (hst.ext (fun _ => rfl) (fun _ => rfl)) (rel'.mono fun id hid => ?_) hk
      rw [hnx]
      exact hlt id hid)

theorem runOpT_ok {α : Type} {cfg : Cfg} (hC : CfgOK P cfg) {env : Env} {S : St} {γ : Gam} {a : Act} {W : World} (rel : Rel F (lt S.nx) env S γ a W) {ops : Array Oper} {o : Oper} {r : α} {K : Env → St → Option α} (h : runOpT cfg F.n ops o env S K = some r)
    {next : Act → World → Prop} {Q : Exit → Act → World → Prop} (hn : ∀ env' S' γ' a' W', S.nx ≤ S'.nx → Oth o.dst a a' → Stp F (lt S.nx) S γ W S' γ' W' → Rel F (lt S'.nx) env' S' γ' a' W' → K env' S' = some r → next a' W') :
    if Region.wanted o (yielded ops a.tmps) = true then o.wp P a W next Q else next (a.put o.dst undef) W := by
  unfold runOpT at h
  split at h
  · exact runOpI_ok hC rel h hn
  · rename_i i ids _
    obtain ⟨h1, h2⟩ := rel.fro (i :: ids)
    exact runOpI_ok hC (S := froS S (i :: ids)) h1 h (fun env' S' γ' a' W' k1 k2 k3 k4 k5 => hn env' S' γ' a' W' k1 k2 (h2.trans k3) k4 k5)

theorem runOps_ok {α : Type} {cfg : Cfg} (hC : CfgOK P cfg) {ops : Array Oper} {r : α} {K : Env → St → Option α} {Q : Exit → Act → World → Prop} :
    ∀ (rest : List Oper) (i : Nat) (env : Env) (S : St) (γ : Gam) (a : Act) (W : World), (∀ k, rest[k]? = ops[i + k]?) → Rel F (lt S.nx) env S γ a W → runOps cfg F.n ops rest env S K = some r →
      (∀ env' S' γ' a' W', S.nx ≤ S'.nx → Same (rest.filterMap (·.dst)) a a' → Stp F (lt S.nx) S γ W S' γ' W' → Rel F (lt S'.nx) env' S' γ' a' W' → K env' S' = some r → Q .normal a' W') → wpOps P ops Q (List.range' i rest.length) a W
  | [], i, env, S, γ, a, W, hr, rel, h, hK => hK env S γ a W (Nat.le_refl _) (Same.refl _ _) (Stp.refl F _ S γ W) rel h
  | o :: rest, i, env, S, γ, a, W, hr, rel, h, hK => by
    have ho : ops[i]? = some o := by have := hr 0; simpa using this.symm
    have hr' : ∀ k, rest[k]? = ops[i + 1 + k]? := fun k => by
      have := hr (k + 1)
      simp only [List.getElem?_cons_succ] at this
      rw [this]
      congr 1
      omega
    simp only [runOps] at h
    simp only [List.length_cons, List.range'_succ]
    have hstep := runOpT_ok hC rel (ops := ops) (o := o) h (next := fun a' W' => wpOps P ops Q (List.range' (i + 1) rest.length) a' W') (Q := Q) (fun env' S' γ' a' W' hnx hoth hst rel' h' => by
      have hsame : Same ((o :: rest).filterMap (·.dst)) a a' := fun s hs => hoth s (fun e => hs (by rw [List.filterMap_cons, e]; exact List.mem_cons_self))
      refine runOps_ok hC rest (i + 1) env' S' γ' a' W' hr' rel' h' (fun env2 S2 γ2 a2 W2 hn2 hs2 hst2 rel2 h2 => hK env2 S2 γ2 a2 W2 (Nat.le_trans hnx hn2) (hsame.trans (hs2.mono (fun s hs => by rw [List.filterMap_cons]; split; exact hs; exact List.mem_cons_of_mem _ hs))) (hst.trans (hst2.weak fun id hid => ?_)) rel2 h2)
      unfold lt at *
      omega)
    unfold wpOps
    rw [ho]
    simp only
    split
    · rename_i hw
      rw [if_pos hw] at hstep
      exact .inl hstep
    · rename_i hw
      rw [if_neg hw] at hstep
      exact hstep

theorem clear_get (env : Env) (s : Nat) : getE (clearE env) s = (match getE env s with
    | .gd _ _ _ => .junk
    | .kn _ _ => .junk
    | d => d) := by
  induction env with
  | nil => rfl
  | cons p r ih =>
    obtain ⟨k, d⟩ := p
    have e : clearE ((k, d) :: r) = (k, match d with
      | .gd _ _ _ => .junk
      | .kn _ _ => .junk
      | d => d) :: clearE r := by
      unfold clearE
      rw [List.map_cons]
      cases d <;> rfl
    rw [e, getE_cons, getE_cons]
    split
    · rfl
    · exact ih

theorem Rel.clear {B : Nat → Prop} {env : Env} {S : St} {γ : Gam} {a : Act} {W : World} (r : Rel F B env S γ a W) : Rel F B (clearE env) S γ a W := by
  refine ⟨r.hp, fun s => ?_, r.defers, r.size, fun s => ?_⟩
  · rw [clear_get]
    have := r.slots s
    cases hg : getE env s with
    | gd s w d => simp only [SlotRep, RepD]
    | kn s w => simp only [SlotRep, RepD]
    | _ => rw [hg] at this; simpa only [SlotRep] using this
  · rw [clear_get]
    have := r.envB s
    cases hg : getE env s with
    | gd s w d => trivial
    | kn s w => trivial
    | _ => rw [hg] at this; exact this

def exOf : Exit → Option Ex
  | .normal => some .normal
  | .exit id => some (.exit id)
  | .ret => some .ret
  | _ => none
/-- What holds where a fragment ends. -/
def Post {α : Type} (F : Fm) (ws : List Nat) (a₀ : Act) (S₀ : St) (γ₀ : Gam) (W₀ : World) (K : Ex → Env → St → Option α) (r : α) : Exit → Act → World → Prop := fun e a W => ∃ ex env S γ, exOf e = some ex ∧ (Same ws a₀ a ∧ S₀.nx ≤ S.nx ∧ Stp F (lt S₀.nx) S₀ γ₀ W₀ S γ W) ∧ Rel F (lt S.nx) env S γ a W ∧ K ex env S = some r

theorem region_ok {α : Type} {cfg : Cfg} (hC : CfgOK P cfg) {ops : Array Oper} {env : Env} {S : St} {γ : Gam} {a : Act} {W : World} {K : Env → St → Option α} {r : α} (rel : Rel F (lt S.nx) env S γ a W)
    (h : runRegion cfg F.n ops env S K = some r) {Q : Exit → Act → World → Prop} (hK : ∀ env' S' γ' a' W', S.nx ≤ S'.nx → Same (ops.toList.filterMap (·.dst)) a a' → Stp F (lt S.nx) S γ W S' γ' W' → Rel F (lt S'.nx) env' S' γ' a' W' → K env' S' = some r → Q .normal a' W') : wpOps P ops Q (List.range ops.size) a W := by
  unfold runRegion at h
  rw [List.range_eq_range', ← Array.length_toList]
  refine runOps_ok hC ops.toList 0 env S γ a W (fun k => by simp) rel h (fun env' S' γ' a' W' hnx hsame hst rel' h' => ?_)
  split at h'
  · exact hK _ _ _ _ _ hnx hsame hst rel'.clear h'
  · exact hK _ _ _ _ _ hnx hsame hst rel' h'

/-- Objects that a piece gives back under the numbers under which they came: in the same blocks, alike. -/
def Held (γ0 : Gam) (look0 : Nat → Option Ob) (nm : List (Option Nat)) (cnt : Nat) (γ : Gam) (look : Nat → Option Ob) : Prop :=
  ∀ i j, i < cnt → idAt nm i = some j → hdG γ i = hdG γ0 j ∧ ∃ ob0 ob, look0 j = some ob0 ∧ look i = some ob ∧ like ob0 ob
/-- A piece's contract holds. -/
def OutOK (F : Fm) (γ0 : Gam) (look0 : Nat → Option Ob) : (outs : List Out) → outT outs → Exit → Act → World → Prop
  | [], y, _, _, _ => nomatch y
  | o :: r, y, e, a, W => match y with
    | .inl x => exOf e = some o.ex ∧ a.defers = [] ∧ a.tmps.size = F.n ∧ ∃ γ, Hp F (lt (scat o.p x 0).n) ⟨(scat o.p x 0).n, (scat o.p x 0).m⟩ γ W ∧
      RepDs W.cell? (Frz F ⟨(scat o.p x 0).n, (scat o.p x 0).m⟩ γ W) (getM (scat o.p x 0).m) γ (scat o.p x 0).ds (o.slots.map fun s => a.tmps.getD s undef) ∧
      Held γ0 look0 o.nm o.p.cnt γ (getM (scat o.p x 0).m)
    | .inr y => OutOK F γ0 look0 r y e a W
def PieceOK (P : Program) (n : Nat) (c : Code) (L : LCtr) : Prop := ∀ x y, L.f x = some y → ∀ (F : Fm) (γ : Gam) (a : Act) (W : World), F.n = n →
  Rel F (lt (scat L.ins x 0).n) (inE L x) ⟨(scat L.ins x 0).n, (scat L.ins x 0).m⟩ γ a W → c.wp P (fun e a' W' => OutOK F γ (getM (scat L.ins x 0).m) L.outs y e a' W' ∧ Same (writes c) a a') a W
/-- Where a piece may be taken, its contract holds. -/
def PiecesOK (P : Program) (n : Nat) (cfg : Cfg) : Code → Prop
  | .seq a b => PiecesOK P n cfg a ∧ PiecesOK P n cfg b
  | .cond c a b => PiecesOK P n cfg a ∧ PiecesOK P n cfg b ∧ ∀ s, c = .tmp s → ∀ L, cfg.lp (ckey s a b) = some L → PieceOK P n (.cond c a b) L
  | .block _ c => PiecesOK P n cfg c
  | .scope c => PiecesOK P n cfg c
  | .loop c => ∀ L, cfg.lp (2 * firstReg c) = some L → PieceOK P n (.loop c) L
  | _ => True
end
end Go.XD


