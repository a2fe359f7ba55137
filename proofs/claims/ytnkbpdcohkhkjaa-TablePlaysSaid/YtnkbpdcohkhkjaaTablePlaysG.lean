/- For every input the law TablePlays returns true, and its arguments read as they did: no condition. -/
import Derived.RangeFuncBox
import Derived.RangeFuncLeaves
import Derived.Shelf.Abstract
import Derived.WalkKit
import Derived.WalkSmall
import Derived.OwnWalkIn
import Derived.TacticsInMore
import Derived.LoopNIn
import Derived.LoopIn
import Derived.Maps.AppendAt
import Derived.Test.YtnkbpdcohkhkjaaProg
import Derived.KernelRfl
import Derived.Test.YtnkbpdcohkhkjaaHe
set_option linter.unusedVariables false
set_option linter.unusedSimpArgs false
set_option linter.unusedSectionVars false
set_option linter.unnecessarySimpa false
set_option linter.deprecated false
set_option maxRecDepth 100000
/- The pairs of a table, by its iterator. -/
namespace Go.XD
open Go.RowKit Go.Shelf Go.Proofs
attribute [local go_sem] Oper.semAt_some

/-- What has come when k places are over. -/
def upT (l : List Int) (h : List Bool) (k : Nat) : List (Nat × Int) := (List.range k).filterMap fun i => if h[i]?.getD false = true then some (i, l[i]?.getD 0) else none
theorem upT_yes {l : List Int} {h : List Bool} {k : Nat} (hk : h[k]?.getD false = true) : upT l h (k + 1) = upT l h k ++ [(k, l[k]?.getD 0)] := by simp [upT, List.range_succ, hk]
theorem upT_no {l : List Int} {h : List Bool} {k : Nat} (hk : h[k]?.getD false = false) : upT l h (k + 1) = upT l h k := by simp [upT, List.range_succ, hk]
theorem upT_len (l : List Int) (h : List Bool) (k : Nat) : (upT l h k).length ≤ k := by
  unfold upT
  refine Nat.le_trans (List.length_filterMap_le _ _) (by simp)

set_option maxHeartbeats 2000000 in
theorem all1_in (F : Fence) (n : Nat) (hf : F.fn 25) (hro : F.round = none) (hn : 1 ≤ n) (y Bs n₀ : Nat) (ad b c : Addr) (l : List Int) (h : List Bool) (cl ch : Nat) (hlh : l.length ≤ h.length) (hreach : h.length * 8 ≤ 140737488351232)
    (hb0 : ad.block < n₀) (hb1 : b.block < n₀) (hb2 : c.block < n₀) (J Jx : List (Nat × Int) → World → Prop)
    (hY : ∀ pre x W, J pre W → pre.length < l.length → YieldAt F (n - 1) Try.prog y #[.int .i64 (x.1 : Int), .int .i64 x.2] W fun e W' =>
      (e = .returned (.bool true) ∧ J (pre ++ [x]) W' ∧ Below n₀ W W') ∨ (e = .returned (.bool false) ∧ Jx (pre ++ [x]) W'))
    (W : World) (hBs : W.cell? ⟨Bs, 0, none⟩ = some (.pointer (some ad))) (hBl : Bs < n₀) (hc0 : W.cell? ad = some (.slice (some b) l.length cl)) (hc1 : W.cell? ⟨ad.block, ad.off + 1, none⟩ = some (.slice (some c) h.length ch))
    (hl : ∀ j, j < l.length → W.cell? (b.add j) = some (.int .i64 (l[j]?.getD 0))) (hh : ∀ j, j < h.length → W.cell? (c.add j) = some (.bool (h[j]?.getD false))) (h0 : J [] W) :
    CallsIn F n Try.prog 25 #[.func (.yield y) #[] #[], .pointer (some ⟨Bs, 0, none⟩)] W fun e W' => (∃ v, e = .returned v) ∧
      ((∃ ys, ys = upT l h l.length ∧ J ys W') ∨ (∃ pre, (∃ k, pre = upT l h k) ∧ Jx pre W')) := by
  refine callsIn_of_wp Try.func25 rfl hf ?_ hro
  simp only [Try.ntmps25, List.size_toArray, List.length_cons, List.length_nil, Nat.reduceAdd, Nat.reduceSub, Array.replicate_succ, Array.replicate_zero, List.push_toArray, List.append_toArray, List.nil_append, List.cons_append]
  gi_wp2
  gi_loopw [12] (fun i wr => ∃ k : Nat, k ≤ l.length ∧ i = .int .i64 k ∧ J (upT l h k) wr ∧ Below n₀ W wr)
    (fun i _ => l.length - (intOf i).toNat)
  case atStart => exact ⟨0, Nat.zero_le _, rfl, h0, Below.refl _ _⟩
  case round =>
    obtain ⟨k, hk, rfl, hJs, hnx⟩ := hrel
    by_cases hlt : k < l.length
    · have c0 : wr.cell? ⟨Bs, 0, none⟩ = some (.pointer (some ad)) := (hnx.cell (p := ⟨Bs, 0, none⟩) hBl).trans hBs
      have c1 : wr.cell? ⟨ad.block, ad.off + 1, none⟩ = some (.slice (some c) h.length ch) := (hnx.cell (p := ⟨ad.block, ad.off + 1, none⟩) hb0).trans hc1
      have c2 : wr.cell? (b.add k) = some (.int .i64 (l[k]?.getD 0)) := (hnx.cell (p := b.add k) (by rw [add_block]; exact hb1)).trans (hl k hlt)
      have hlt2 : k < h.length := by omega
      have c3 : wr.cell? (c.add k) = some (.bool (h[k]?.getD false)) := (hnx.cell (p := c.add k) (by rw [add_block]; exact hb2)).trans (hh k hlt2)
      obtain ⟨xv, hxv⟩ : ∃ xv, l[k]?.getD 0 = xv := ⟨_, rfl⟩
      rw [hxv] at c2
      cases hhk : h[k]?.getD false with
      | true =>
        have hup := upT_yes (l := l) hhk
        rw [hxv] at hup
        rw [hhk] at c3
        obtain ⟨fn, tmps, assign, body, hy, hR⟩ := hY _ (k, xv) wr hJs (Nat.lt_of_le_of_lt (upT_len l h k) hlt)
        dsimp only at hy
        clear hxv hhk
        gi_wp2
        refine hR.mono ?_
        rintro e W3 (⟨rfl, hJ3, hk3⟩ | ⟨rfl, hJx3⟩)
        · gi_wp2
          go_roundw
          case rel => exact ⟨k + 1, by omega, by simp, by rw [hup]; exact hJ3, hnx.trans hk3⟩
          case measure => simp [intOf]; omega
        · gi_wp2
          refine bodyPost_ret (results_none rfl _ _ _) rfl ?_
          exact ⟨⟨_, rfl⟩, .inr ⟨_, ⟨k + 1, hup.symm⟩, hJx3⟩⟩
      | false =>
        have hup := upT_no (l := l) hhk
        rw [hhk] at c3
        clear hxv hhk
        gi_wp2
        refine ⟨fun _ h => (by cases h), ?_⟩
        gi_wp2
        go_roundw
        case rel => exact ⟨k + 1, by omega, by simp, by rw [hup]; exact hJs, hnx⟩
        case measure => simp [intOf]; omega
    · obtain rfl : k = l.length := by omega
      gi_wp2
      go_end0
      exact ⟨⟨_, rfl⟩, .inl ⟨_, rfl, hJs⟩⟩

set_option maxHeartbeats 2000000 in
theorem all1_nil (F : Fence) (n : Nat) (hf : F.fn 25) (hro : F.round = none) (y Bs : Nat) (ad : Addr) (a : Option Addr) (cl : Nat) (J : List (Nat × Int) → World → Prop)
    (W : World) (hBs : W.cell? ⟨Bs, 0, none⟩ = some (.pointer (some ad))) (hc0 : W.cell? ad = some (.slice a 0 cl)) (h0 : J [] W) :
    CallsIn F n Try.prog 25 #[.func (.yield y) #[] #[], .pointer (some ⟨Bs, 0, none⟩)] W fun e W' => (∃ v, e = .returned v) ∧ J [] W' := by
  refine callsIn_of_wp Try.func25 rfl hf ?_ hro
  simp only [Try.ntmps25, List.size_toArray, List.length_cons, List.length_nil, Nat.reduceAdd, Nat.reduceSub, Array.replicate_succ, Array.replicate_zero, List.push_toArray, List.append_toArray, List.nil_append, List.cons_append]
  gi_wp2
  gi_loopw [12] (fun i wr => i = .int .i64 0 ∧ J [] wr) (fun _ _ => 0)
  case atStart => exact ⟨rfl, h0⟩
  case round =>
    obtain ⟨rfl, hJs⟩ := hrel
    gi_wp2
    go_end0
    exact ⟨⟨_, rfl⟩, hJs⟩

set_option maxHeartbeats 1000000 in
theorem all_in (F : Fence) (n : Nat) (hf : F.fn 24) (hro : F.round = none) (p0 : Option Addr) (w : World) :
    CallsIn F n Try.prog 24 #[.pointer p0] w fun e w' => e = .returned (.func (.func 25) #[] #[.pointer (some ⟨w.heap.size, 0, none⟩)]) ∧ w' = w.alloc (.cells #[.pointer p0] 53) := by
  refine callsIn_of_wp Try.func24 rfl hf ?_ hro
  simp only [Try.ntmps24, List.size_toArray, List.length_cons, List.length_nil, Nat.reduceAdd, Nat.reduceSub, Array.replicate_succ, Array.replicate_zero, List.push_toArray, List.append_toArray, List.nil_append, List.cons_append]
  gi_wp2
  go_ret
  exact ⟨rfl, rfl⟩

/-- A table's slices, in blocks below a bound. -/
def TabR (n₀ : Nat) (W : World) (ad : Addr) (l : List Int) (h : List Bool) : Prop := ad.block < n₀ ∧
  ((l = [] ∧ ∃ a c, W.cell? ad = some (.slice a 0 c)) ∨ ∃ b c cl ch, W.cell? ad = some (.slice (some b) l.length cl) ∧ W.cell? ⟨ad.block, ad.off + 1, none⟩ = some (.slice (some c) h.length ch) ∧ b.block < n₀ ∧ c.block < n₀ ∧
    (∀ j, j < l.length → W.cell? (b.add j) = some (.int .i64 (l[j]?.getD 0))) ∧ ∀ j, j < h.length → W.cell? (c.add j) = some (.bool (h[j]?.getD false)))
theorem TabR.below {n₀ : Nat} {A B : World} (hb : Below n₀ A B) {ad : Addr} {l : List Int} {h : List Bool} (r : TabR n₀ A ad l h) : TabR n₀ B ad l h := by
  obtain ⟨h0, r⟩ := r
  refine ⟨h0, ?_⟩
  rcases r with ⟨r1, a, c, r2⟩ | ⟨b, c, cl, ch, r1, r2, r3, r4, r5, r6⟩
  · exact .inl ⟨r1, a, c, (hb.cell (p := ad) h0).trans r2⟩
  · exact .inr ⟨b, c, cl, ch, (hb.cell (p := ad) h0).trans r1, (hb.cell (p := ⟨ad.block, ad.off + 1, none⟩) h0).trans r2, r3, r4, fun j hj => (hb.cell (p := b.add j) (by rw [add_block]; exact r3)).trans (r5 j hj), fun j hj => (hb.cell (p := c.add j) (by rw [add_block]; exact r4)).trans (r6 j hj)⟩
theorem TabR.mono {n₀ n₁ : Nat} {A : World} {ad : Addr} {l : List Int} {h : List Bool} (r : TabR n₀ A ad l h) (hn : n₀ ≤ n₁) : TabR n₁ A ad l h := by
  obtain ⟨h0, r⟩ := r
  refine ⟨by omega, ?_⟩
  rcases r with r | ⟨b, c, cl, ch, r1, r2, r3, r4, r5, r6⟩
  · exact .inl r
  · exact .inr ⟨b, c, cl, ch, r1, r2, by omega, by omega, r5, r6⟩
theorem all_stops (F : Fence) (n : Nat) (hf : F.fn 25) (hro : F.round = none) (hn : 1 ≤ n) (Bs n₀ : Nat) (ad : Addr) (l : List Int) (h : List Bool) (hlh : l.length ≤ h.length) (hreach : h.length * 8 ≤ 140737488351232) (w : World) (hBs : Bs < n₀) (hn₀ : n₀ ≤ w.heap.size)
    (hc : w.cell? ⟨Bs, 0, none⟩ = some (.pointer (some ad))) (hT : TabR n₀ w ad l h) :
    SeqStopsK F n Try.prog 25 #[.pointer (some ⟨Bs, 0, none⟩)] (fun x : Nat × Int => #[Value.int .i64 (x.1 : Int), Value.int .i64 x.2]) (Below n₀) (fun ys => ys = upT l h l.length) (fun pre => ∃ k, pre = upT l h k) l.length w := fun y J Jx W hW _ _ hY h0 => by
  have hc' := (hW.cell (p := ⟨Bs, 0, none⟩) (Nat.lt_of_lt_of_le hBs hn₀)).trans hc
  obtain ⟨hb0, r⟩ := hT.below (hW.mono hn₀)
  rcases r with ⟨rfl, a, c, r2⟩ | ⟨b, c, cl, ch, r1, r2, r3, r4, r5, r6⟩
  · exact (all1_nil F n hf hro y Bs ad a c J W hc' r2 h0).mono fun e W' ⟨he, hj⟩ => ⟨he, .inl ⟨_, rfl, hj⟩⟩
  · exact all1_in F n hf hro hn y Bs n₀ ad b c l h cl ch hlh hreach hb0 r3 r4 J Jx hY W hc' hBs r1 r2 r5 r6 h0

/-- The cells of pairs. -/
def enP (pre : List (Nat × Int)) : List Value := pre.flatMap fun p => [.int .i64 (p.1 : Int), .int .i64 p.2]
theorem enP_snoc (pre : List (Nat × Int)) (x : Nat × Int) : enP (pre ++ [x]) = enP pre ++ [.int .i64 (x.1 : Int), .int .i64 x.2] := by simp [enP]
theorem info27 : (Try.prog.info? 27).map (fun i => (i.zero, i.size, i.bytes)) = some (some (.agg #[.int .i64 0, .int .i64 0]), 2, 16) := by kernel_rfl

theorem eqNil (lb : Array Value) (w : World) : (binOp BinOp.eql 58 (Value.func (Fn.func 25) #[] lb) Value.nilFunc).run Try.prog w = .ok (.bool false) w := by
  have : (Op.equalIn Op.maxDepth 58 (Value.func (Fn.func 25) #[] lb) Value.nilFunc).run Try.prog w = .ok false w := by
    rw [show Op.maxDepth = (Op.maxDepth - 1) + 1 from rfl]
    unfold Op.equalIn
    simp [run_underlying Try.underlying58, Result.andThen]
  simp [binOp, Op.equal, Result.andThen, this]
set_option maxHeartbeats 2000000 in
theorem pairs_in (F : Fence) (n : Nat) (hf2 : F.fn 22) (hf4 : F.fn 24) (hf5 : F.fn 25) (hro : F.round = none) (hn : 3 ≤ n) (ad : Addr) (l : List Int) (h : List Bool) (hlh : l.length ≤ h.length) (hreach : h.length * 8 ≤ 140737488351232) (hlen : l.length ≤ 1048576) (w : World) (hL : TabR w.heap.size w ad l h) :
    CallsIn F n Try.prog 22 #[.pointer (some ad)] w fun e W' => ∃ v, e = .returned (.tuple #[v, .bool true]) ∧ W'.ownsRow w.heap.size 27 2 v (upT l h l.length).length (enP (upT l h l.length)) ∧ Below w.heap.size w W' := by
  have h1 : 1 ≤ n := by omega
  obtain ⟨i0, hi, hz0, hz1, hz2⟩ := info_parts info27
  have hnil := eqNil
  refine callsIn_of_wp_marks Try.func22 rfl hf2 ?_ hro
  simp only [Try.ntmps22, List.size_toArray, List.length_cons, List.length_nil, Nat.reduceAdd, Nat.reduceSub, Array.replicate_succ, Array.replicate_zero, List.push_toArray, List.append_toArray, List.nil_append, List.cons_append]
  gi_wp2_with (gi_at_call 24; refine (all_in F (n - 1) hf4 hro _ _).mono ?_; rintro e w' ⟨rfl, rfl⟩)
  have bN := (Boxed.new w 53 (.pointer (some ad))).alloc (.cells #[.slice none 0 0] 22)
  have bO := Boxed.new (w.alloc (.cells #[.pointer (some ad)] 53)) 22 (.slice none 0 0)
  rw [World.size_alloc] at bO
  have hB0 : Below w.heap.size w ((w.alloc (.cells #[.pointer (some ad)] 53)).alloc (.cells #[.slice none 0 0] 22)) := ((Below.refl _ w).alloc (Nat.le_refl _) _).alloc (by simp) _
  refine wpIn_rangeFunc_ownG hro h1 (gf := 25) (lb := #[.pointer (some ⟨w.heap.size, 0, none⟩)]) rfl hf5 (enters_of Try.func25 (by kernel_rfl) rfl)
    (all_stops F (n - 1) hf5 hro (by omega) w.heap.size (w.heap.size + 1) ad l h hlh hreach _ (by omega) (by simp) bN.cell ((hL.below hB0).mono (by omega))) belowK_t (belowK_b (by simp)) (Below.refl _ _) (fun _ => rfl)
    (fun pre W => (∃ v, Boxed W (w.heap.size + 1) 22 v ∧ W.ownsRow (w.heap.size + 1) 27 2 v pre.length (enP pre) ∧ True) ∧ Below (w.heap.size + 1) ((w.alloc (.cells #[.pointer (some ad)] 53)).alloc (.cells #[.slice none 0 0] 22)) W)
    (fun _ _ _ => False)
    (OwnFrom.and (Own.from (holdsRow_own (w.heap.size + 1) (w.heap.size + 1) 22 27 2 (fun pre : List (Nat × Int) => pre.length) (fun pre => enP pre) (fun _ _ => True)) _) (ownFrom_below (by simp) (by simp)))
    (fun _ _ _ _ _ hs _ _ => hs)
    ⟨⟨_, bO, World.ownsRow_nil _ _ _ _, trivial⟩, Below.refl _ _⟩
    (fun x => { tmps := #[.pointer (some ad), undef, .slice none 0 0, .bool false, .func (.func 25) #[] #[.pointer (some ⟨w.heap.size, 0, none⟩)], .pointer (some ⟨w.heap.size + 1, 0, none⟩), .int .i64 (x.1 : Int), .int .i64 x.2, .pointer (some ad), .func (.func 25) #[] #[.pointer (some ⟨w.heap.size, 0, none⟩)], .func (.func 25) #[] #[.pointer (some ⟨w.heap.size, 0, none⟩)], .bool false, .func (.func 25) #[] #[.pointer (some ⟨w.heap.size, 0, none⟩)], .int .i64 (x.1 : Int), .int .i64 x.2, undef, undef, undef, undef, undef, undef, undef], defers := [] }) ?assign ?body ?done ?stop
  case assign =>
    intro l x W K hK
    gi_wp2
    exact hK
  case body =>
    rintro y pre x W ⟨⟨v, hv, hrow, _⟩, hB⟩ hlt
    have hc := hv.cell
    gi_wp2_with (gi_at_builtin; refine wpListIn_append_own _ rfl _ _ 22 rfl (w.heap.size + 1) 27 i0 (.agg #[.int .i64 0, .int .i64 0]) 2 16 Try.underlying22 hi hz0 hz1 hz2 rfl (by decide) _ _ _ rfl (hrow.alloc _) ⟨W.heap.size, 0, none⟩ 1 1 [.int .i64 (x.1 : Int), .int .i64 x.2] rfl rfl (cell_two_new _ _ _ _) (by simp [Value.oneCell']) (by simp [maxLen]; omega) (by omega) (by have := hB.size; simp at this ⊢; omega) ?_; intro v' w1 hown' hgrow _; obtain ⟨g', cap', rfl⟩ := ownsRow_succ hown'; obtain ⟨hv1, hv2, hr2, hk2, hb2⟩ := hv.appended (by decide) hrow (by have := hB.size; simp at this ⊢; omega) (Nat.le_refl _) hown' hgrow; have hc1 := hv1.cell; have hf1 := hv1.frozen)
    exact ⟨hk2.from _, hb2, ⟨_, hv2, by rw [enP_snoc]; simpa using hr2, trivial⟩, hB.trans hb2⟩
  case done =>
    rintro D ys W hD rfl ⟨⟨v, hv, hrow, _⟩, hB⟩ hK
    have hc := hv.cell
    gi_wp2
    refine ⟨by simp, .inl ⟨_, _, rfl, run_takeDeferred hK, ?_⟩⟩
    have hrow' := ownsRow_putObj hrow (.deferred none) hK rfl
    refine ⟨.tuple #[v, .bool true], ?_, v, rfl, ⟨hrow'.1, hrow'.2.imp id fun ⟨g, cap, cur, a1, a2, a3⟩ => ⟨g, cap, cur, a1, by omega, a3⟩⟩, (hB0.trans (hB.mono (by omega))).trans (belowK_b (w := w) (Nat.le_refl _) W D _ _ (by simp at hD; omega) hK rfl rfl)⟩
    exact results_tmp2 (fn := Try.f22) (t := 2) (u := 3) rfl _ _ _
  case stop =>
    rintro D c pre W _ _ h _
    exact h.elim

theorem enP_at : ∀ (prs : List (Nat × Int)) (i : Nat) (p : Nat × Int), prs[i]? = some p → (enP prs)[i * 2]? = some (.int .i64 (p.1 : Int)) ∧ (enP prs)[i * 2 + 1]? = some (.int .i64 p.2)
  | [], i, p, h => by simp at h
  | q :: r, 0, p, h => by
    simp only [List.getElem?_cons_zero, Option.some.injEq] at h
    subst h
    exact ⟨rfl, rfl⟩
  | q :: r, i + 1, p, h => by
    have ih := enP_at r i p (by simpa using h)
    have e : enP (q :: r) = .int .i64 (q.1 : Int) :: .int .i64 q.2 :: enP r := rfl
    rw [e, show (i + 1) * 2 = i * 2 + 1 + 1 from by omega]
    simpa using ih

/-- What a table's pairs are. -/
def law08_pairs (x : (Option (List Int × List Bool × Int × Unit)) × Unit) : Option (List (Int × Int × Unit) × Bool × Unit) := match x.1 with
  | some t => if t.1.length ≤ t.2.1.length ∧ t.2.1.length ≤ 1048576 then some ((upT t.1 t.2.1 t.1.length).map (fun p => ((p.1 : Int), p.2, ())), true, ()) else none
  | none => none
def law08_pairs_c : Ctr := ⟨.cons (.ptr (.cons (.lst (.int .i64)) (.cons (.lst .bool) (.cons (.int .i64) .nil)))) .nil, .cons (.lst (.st (.cons (.int .i64) (.cons (.int .i64) .nil)))) (.cons .bool .nil), law08_pairs, none⟩
theorem upT_mem {l : List Int} {h : List Bool} {k : Nat} {p : Nat × Int} (hp : p ∈ upT l h k) : p.1 < k ∧ p.2 = l[p.1]?.getD 0 := by
  unfold upT at hp
  rw [List.mem_filterMap] at hp
  obtain ⟨i, hi, he⟩ := hp
  split at he
  · simp only [Option.some.injEq] at he
    subst he
    exact ⟨List.mem_range.1 hi, rfl⟩
  · cases he
theorem law08_pairs_ok : CtrOK Try.prog 22 law08_pairs_c := by
  refine ⟨⟨_, Try.func22, by kernel_rfl, by kernel_rfl⟩, fun x y hy W G args hG hA => ?_⟩
  obtain ⟨o, u⟩ := x
  change law08_pairs (o, u) = some y at hy
  unfold law08_pairs at hy
  cases o with
  | none => cases hy
  | some t =>
    simp only at hy
    split at hy
    · rename_i hcond
      have hy := Option.some.inj hy
      subst hy
      obtain ⟨v, r, rfl, hv, rfl⟩ := hA
      obtain ⟨l, h, n, u2⟩ := t
      have hv' := (RepV.leaf (t := .ptr _) rfl).1 hv
      obtain ⟨ad, hve, _, hGa, r1, r2, r3, _⟩ := hv'
      have hve : some v = some (Value.pointer (some ad)) := hve
      have hve := Option.some.inj hve
      subst hve
      replace hcond : l.length ≤ h.length ∧ h.length ≤ 1048576 := hcond
      obtain ⟨a, c, a1, a2, a3, a4⟩ := r1
      obtain ⟨b, d, b1, b2, b3, b4⟩ := r2
      have hfit : ∀ k : Nat, fits .i64 (l[k]?.getD 0) := fun k => by
        by_cases hk : k < l.length
        · obtain ⟨ad', _, _, _, e4⟩ := a4 (fun e => by subst e; simp at hk)
          have := e4 k _ (List.getElem?_eq_getElem hk)
          rw [List.getElem?_eq_getElem hk]
          exact this.2
        · rw [List.getElem?_eq_none (by omega)]
          exact ⟨by decide, by decide⟩
      have hT : TabR W.heap.size W ad l h := by
        refine ⟨hG _ hGa, ?_⟩
        by_cases hl : l = []
        · subst hl
          exact .inl ⟨rfl, a, c, a1⟩
        · obtain ⟨ad1, rfl, _, g1, e1⟩ := a4 hl
          have hh : h ≠ [] := fun e => by
            subst e
            simp only [List.length_nil, Nat.le_zero_eq, List.length_eq_zero_iff] at hcond
            exact hl hcond.1
          obtain ⟨ad2, rfl, _, g2, e2⟩ := b4 hh
          refine .inr ⟨ad1, ad2, c, d, a1, ?_, hG _ g1, hG _ g2, fun j hj => ?_, fun j hj => ?_⟩
          · have : ad.add (1 + 0) = ⟨ad.block, ad.off + 1, none⟩ := by simp [Addr.add]
            rw [← this]
            exact b1
          · have := (e1 j _ (List.getElem?_eq_getElem hj)).1
            rw [List.getElem?_eq_getElem hj]
            simpa [Ty.cells] using this
          · have := e2 j _ (List.getElem?_eq_getElem hj)
            rw [List.getElem?_eq_getElem hj]
            simpa [Ty.cells, RepC] using this
      have hcalls := callsIn_wide.1 (pairs_in Fence.wide 3 trivial trivial trivial rfl (Nat.le_refl _) ad l h hcond.1 (by omega) (by omega) W hT)
      refine Calls.mono hcalls fun e W' hW => ?_
      obtain ⟨v, rfl, hrow, hbel⟩ := hW
      refine ⟨_, rfl, ?_, hbel⟩
      show RepD _ _ _ _ (.tup [.fz _ _, .fz _ _]) _
      simp only [RepD, RepDs]
      refine ⟨[v, .bool true], rfl, v, _, rfl, (RepV.leaf rfl).2 ?_, .bool true, [], rfl, (RepV.leaf rfl).2 rfl, rfl⟩
      have hlen := upT_len l h l.length
      rcases hrow with ⟨w1, ⟨rfl, w3⟩ | ⟨g, cap, cur, rfl, w3, w4, w5, w6, w7, w8⟩⟩
      · have hnil : upT l h l.length = [] := List.eq_nil_of_length_eq_zero w3
        refine ⟨none, 0, ?_, ?_, ?_, fun hne => ?_⟩
        · rw [hnil]; rfl
        · rw [hnil]; exact Nat.le_refl _
        · rw [hnil]; exact Nat.zero_le _
        · rw [hnil] at hne; exact absurd rfl hne
      · refine ⟨some ⟨g, 0, none⟩, cap, by simp, by simpa using w5, by simp; omega, fun hne => ⟨_, rfl, trivial, .inr ⟨w3, ?_⟩, fun i x hx => ?_⟩⟩
        · exact (Array.getElem?_eq_some_iff.1 w4).1
        · rw [List.getElem?_map] at hx
          obtain ⟨p, hp, rfl⟩ := Option.map_eq_some_iff.1 hx
          have hil := (List.getElem?_eq_some_iff.1 hp).1
          obtain ⟨q1, q2⟩ := enP_at _ i p hp
          obtain ⟨m1, m2⟩ := upT_mem (List.mem_of_getElem? hp)
          have hcell : ∀ m, W'.cell? ((⟨g, 0, none⟩ : Addr).add m) = cur[m]? := fun m => by
            rw [add_eq _ rfl]
            simp [World.cell?, w4]
          have hcur : ∀ m u, (enP (upT l h l.length))[m]? = some u → cur[m]? = some u := fun m u hm => by
            rw [← w8] at hm
            have := (List.getElem?_eq_some_iff.1 hm).1
            rw [List.getElem?_take, if_pos (by rw [List.length_take] at this; omega)] at hm
            simpa using hm
          refine ⟨⟨?_, ?_⟩, ⟨?_, ?_⟩, trivial⟩
          · show W'.cell? ((⟨g, 0, none⟩ : Addr).add (i * 2 + 0)) = _
            rw [hcell]
            exact hcur _ _ q1
          · constructor
            · show (-9223372036854775808 : Int) ≤ (p.1 : Int); omega
            · show (p.1 : Int) ≤ 9223372036854775807; omega
          · show W'.cell? ((⟨g, 0, none⟩ : Addr).add (i * 2 + (1 + 0))) = _
            rw [hcell]
            exact hcur _ _ q2
          · show fits .i64 p.2
            rw [m2]
            exact hfit _
    · cases hy
end Go.XD


namespace Go.XD
open Go.Proofs

abbrev t_easementref08_Pair : Ty := (.st (.cons (.int .i64) (.cons (.int .i64) .nil)))
abbrev V_easementref08_Pair : Type := (Int × Int × Unit)
abbrev t_point_Points : Ty := (.st (.cons (.lst (.int .i64)) .nil))
abbrev V_point_Points : Type := ((List Int) × Unit)
abbrev t_api_Slot : Ty := (.st (.cons (.int .i64) (.cons .bool .nil)))
abbrev V_api_Slot : Type := (Int × Bool × Unit)
abbrev T1 : Type := (Int × (List Int) × (List V_easementref08_Pair) × Int × Int × Unit)
abbrev T3 : Type := ((List (List V_easementref08_Pair)) × (List Int) × Int × Int × Unit)
abbrev T4 : Type := (((List (List V_easementref08_Pair)) × (List Int) × Unit) ⊕ Empty)
abbrev T7 : Type := (Int × (List (List V_easementref08_Pair)) × (List V_easementref08_Pair) × Int × Int × Unit)
abbrev T8 : Type := ((List V_easementref08_Pair) × (List V_easementref08_Pair) × Int × Unit)
abbrev T10 : Type := ((List ByteArray) × (List (ByteArray × Int × Nat) × Nat) × (List ByteArray) × Int × Int × Unit)
abbrev T11 : Type := (((List ByteArray) × (List (ByteArray × Int × Nat) × Nat) × Unit) ⊕ Empty)
abbrev T14 : Type := ((List V_easementref08_Pair) × (List (V_easementref08_Pair × Int × Nat) × Nat) × (List V_easementref08_Pair) × Int × Int × Unit)
abbrev T15 : Type := (((List V_easementref08_Pair) × (List (V_easementref08_Pair × Int × Nat) × Nat) × Unit) ⊕ Empty)
abbrev T16 : Type := ((List V_easementref08_Pair) × (List V_easementref08_Pair) × Int × Bool × Unit)
abbrev T17 : Type := ((List V_easementref08_Pair) × Int × (List V_easementref08_Pair) × Int × Unit)
abbrev T18 : Type := ((List V_easementref08_Pair) × Int × (List (List V_easementref08_Pair)) × Int × Unit)
abbrev T22 : Type := (((List ByteArray) × (List Bool) × Int × Unit) × Int × Unit)
abbrev T23 : Type := ((((List ByteArray) × (List Bool) × Int × Unit) × Unit) ⊕ Empty)
abbrev T29 : Type := ((List V_easementref08_Pair) × Int × Int × (List V_easementref08_Pair) × Bool × Int × Unit)
abbrev T35 : Type := (((List Int) × (List Bool) × Int × Unit) × (List V_easementref08_Pair) × Int × Int × (List V_easementref08_Pair) × Int × Unit)
abbrev T36 : Type := ((Bool × ((List Int) × (List Bool) × Int × Unit) × Unit) ⊕ (((List V_easementref08_Pair) × ((List Int) × (List Bool) × Int × Unit) × Unit) ⊕ Empty))
abbrev q16 : CP := (.cons (.val (.lst t_easementref08_Pair)) (.cons (.own t_easementref08_Pair) (.cons (.val (.int .i64)) (.cons (.val .bool) .nil))))
abbrev q21 : CP := (.cons (.own .str) (.cons (.own .bool) (.cons (.val (.int .i64)) .nil)))
abbrev q26 : CP := (.cons (.own (.int .i64)) (.cons (.own .bool) (.cons (.val (.int .i64)) .nil)))
noncomputable def k0 : FE Try.prog := ⟨[], [], [], [], trivial, trivial, trivial⟩

/-! ### (easement/easementref08.Pair).Key: function 42 -/
noncomputable def ref08_Pair_Key (x : (V_easementref08_Pair × Unit)) : Option (Int × Unit) :=
  some (x.1.1, ())
noncomputable def ref08_Pair_Key_c : Ctr := ⟨(.cons t_easementref08_Pair .nil), (.cons (.int .i64) .nil), ref08_Pair_Key, none⟩
theorem ref08_Pair_Key_ok : CtrOK Try.prog 42 ref08_Pair_Key_c := fun_E (ls := []) k0 Try.func42 trivial (by kernel_rfl) (fun x => by kernel_rfl)
/-! ### easement/table.Group[easement/easementref08.Pair]: function 7 -/
noncomputable def k2 : FE Try.prog := ⟨[(42, ref08_Pair_Key_c)], [], [(2000047, [1]), (3000016, [9]), (3000023, [9])], [], ⟨ref08_Pair_Key_ok, trivial⟩, trivial, trivial⟩
noncomputable def table_Group_16_j77_v (x : ((List Int) × Int × Bool × Unit)) : Option (V_point_Points ⊕ Empty) :=
  cond (x.2.2.1)
    (ck (inB x.2.1 (x.1.length)) <|
    ck (inB x.2.1 (x.1.length)) <|
    some (.inl (x.1.set x.2.1.toNat (IntKind.i64.wrap ((x.1.getD x.2.1.toNat (Ty.dflt (.int .i64))) + (1 : Int))), ())))
    (some (.inl (x.1, ())))
noncomputable def k2l1 : LCtr := ⟨[5, 8, 38], (.cons (.own (.int .i64)) (.cons (.val (.int .i64)) (.cons (.val .bool) .nil))), [], [1, 5, 23, 24, 25], [⟨.normal, [5], (.cons (.own (.int .i64)) .nil), [some 0]⟩], fun _ => [], table_Group_16_j77_v⟩
noncomputable def table_Group_16_l10_step (g : T1 → Option (V_point_Points ⊕ Empty)) (x : T1) : Option (V_point_Points ⊕ Empty) :=
  cond (decide (x.2.2.2.2.1 < x.2.2.2.1))
    (ck (inB x.2.2.2.2.1 (x.2.2.1.length)) <|
    Option.bind (ref08_Pair_Key (rdL t_easementref08_Pair x.2.2.1 x.2.2.2.2.1, ())) fun y1 =>
    Option.bind (table_Group_16_j77_v (x.2.1, y1.1, cond (decide (y1.1 ≥ (0 : Int))) (decide (y1.1 < x.1)) false, ())) fun y2 => out1 y2
      (fun z3 =>
        g (x.1, z3.1, x.2.2.1, x.2.2.2.1, IntKind.i64.wrap (x.2.2.2.2.1 + (1 : Int)), ())))
    (some (.inl (x.2.1, ())))
noncomputable def k2l2 : LCtr := ⟨[1, 5, 23, 24, 25], (.cons (.val (.int .i64)) (.cons (.own (.int .i64)) (.cons (.val (.lst t_easementref08_Pair)) (.cons (.val (.int .i64)) (.cons (.val (.int .i64)) .nil))))), [some 0], [0, 1, 5], [⟨(.exit 0), [5], (.cons (.own (.int .i64)) .nil), [some 0]⟩], fun _ => [], lim table_Group_16_l10_step⟩
noncomputable def table_Group_16_j113_v (x : ((List (List V_easementref08_Pair)) × Int × Int × Bool × Unit)) : Option (((List (List V_easementref08_Pair)) × Unit) ⊕ Empty) :=
  cond (x.2.2.2.1)
    (ck (decide (0 ≤ (0 : Int)) && decide ((0 : Int) ≤ x.2.2.1) && decide (x.2.2.1 * ((19 : Nat) : Int) ≤ 35184372088832)) <|
    ck (inB x.2.1 (x.1.length)) <|
    some (.inl (x.1.set x.2.1.toNat (List.replicate (0 : Int).toNat (((0 : Int), (0 : Int), ()) : V_easementref08_Pair)), ())))
    (some (.inl (x.1, ())))
noncomputable def k2l3 : LCtr := ⟨[9, 10, 11, 56], (.cons (.arr (.own t_easementref08_Pair)) (.cons (.val (.int .i64)) (.cons (.val (.int .i64)) (.cons (.val .bool) .nil)))), [], [9, 48, 49, 50], [⟨.normal, [9], (.cons (.arr (.own t_easementref08_Pair)) .nil), [some 0]⟩], fun _ => [], table_Group_16_j113_v⟩
noncomputable def table_Group_16_l26_step (g : T3 → Option T4) (x : T3) : Option T4 :=
  cond (decide (x.2.2.2.1 < x.2.2.1))
    (ck (inB x.2.2.2.1 (x.2.1.length)) <|
    let v1 := x.2.1.getD x.2.2.2.1.toNat (Ty.dflt (.int .i64))
    Option.bind (table_Group_16_j113_v (x.1, x.2.2.2.1, v1, decide (v1 > (0 : Int)), ())) fun y6 => out1 y6
      (fun z7 =>
        g (z7.1, x.2.1, x.2.2.1, IntKind.i64.wrap (x.2.2.2.1 + (1 : Int)), ())))
    (some (.inl (x.1, x.2.1, ())))
noncomputable def k2l4 : LCtr := ⟨[9, 48, 49, 50], (.cons (.arr (.own t_easementref08_Pair)) (.cons (.own (.int .i64)) (.cons (.val (.int .i64)) (.cons (.val (.int .i64)) .nil)))), [some 0, some 1], [0, 1, 9], [⟨(.exit 2), [9, 48], (.cons (.arr (.own t_easementref08_Pair)) (.cons (.own (.int .i64)) .nil)), [some 0, some 1]⟩], fun _ => [], lim table_Group_16_l26_step⟩
noncomputable def table_Group_16_j157_v (x : (V_easementref08_Pair × (List (List V_easementref08_Pair)) × Int × Bool × Unit)) : Option ((V_easementref08_Pair × (List (List V_easementref08_Pair)) × Unit) ⊕ Empty) :=
  cond (x.2.2.2.1)
    (ck (inB x.2.2.1 (x.2.1.length)) <|
    let v1 := (x.2.1.getD x.2.2.1.toNat ([] : List V_easementref08_Pair)) ++ [x.1]
    ck (roomB v1.length 19) <|
    ck (inB x.2.2.1 (x.2.1.length)) <|
    ck (Nat.beq x.2.2.1.toNat x.2.2.1.toNat) <|
    some (.inl (x.1, x.2.1.set x.2.2.1.toNat v1, ())))
    (some (.inl (x.1, x.2.1, ())))
noncomputable def k2l5 : LCtr := ⟨[13, 9, 14, 78], (.cons (.ptr (.cons (.val (.int .i64)) (.cons (.val (.int .i64)) .nil))) (.cons (.arr (.own t_easementref08_Pair)) (.cons (.val (.int .i64)) (.cons (.val .bool) .nil)))), [], [1, 9, 63, 64, 65], [⟨.normal, [13, 9], (.cons (.ptr (.cons (.val (.int .i64)) (.cons (.val (.int .i64)) .nil))) (.cons (.arr (.own t_easementref08_Pair)) .nil)), [some 0, some 1]⟩], fun _ => [], table_Group_16_j157_v⟩
noncomputable def table_Group_16_l38_step (g : T7 → Option (((List (List V_easementref08_Pair)) × Unit) ⊕ Empty)) (x : T7) : Option (((List (List V_easementref08_Pair)) × Unit) ⊕ Empty) :=
  cond (decide (x.2.2.2.2.1 < x.2.2.2.1))
    (ck (inB x.2.2.2.2.1 (x.2.2.1.length)) <|
    let v1 := rdL t_easementref08_Pair x.2.2.1 x.2.2.2.2.1
    Option.bind (ref08_Pair_Key (v1, ())) fun y10 =>
    Option.bind (table_Group_16_j157_v (v1, x.2.1, y10.1, cond (decide (y10.1 ≥ (0 : Int))) (decide (y10.1 < x.1)) false, ())) fun y11 => out1 y11
      (fun z12 =>
        g (x.1, z12.2.1, x.2.2.1, x.2.2.2.1, IntKind.i64.wrap (x.2.2.2.2.1 + (1 : Int)), ())))
    (some (.inl (x.2.1, ())))
noncomputable def k2l6 : LCtr := ⟨[1, 9, 63, 64, 65], (.cons (.val (.int .i64)) (.cons (.arr (.own t_easementref08_Pair)) (.cons (.val (.lst t_easementref08_Pair)) (.cons (.val (.int .i64)) (.cons (.val (.int .i64)) .nil))))), [some 0], [9], [⟨(.exit 4), [9], (.cons (.arr (.own t_easementref08_Pair)) .nil), [some 0]⟩], fun _ => [], lim table_Group_16_l38_step⟩
theorem k2s : LsOK Try.prog Try.f7.ntmps (codeOf Try.f7) [(38, k2l6), (3014813, k2l5), (26, k2l4), (2097265, k2l3), (10, k2l2), (1179725, k2l1)] := loop_E 38 k2l6 k2 (join_E 3014813 k2l5 k2 (loop_E 26 k2l4 k2 (join_E 2097265 k2l3 k2 (loop_E 10 k2l2 k2 (join_E 1179725 k2l1 k2 trivial (by kernel_rfl) (fun x => by kernel_rfl)) (by kernel_rfl) rfl (fun g x => by kernel_rfl)) (by kernel_rfl) (fun x => by kernel_rfl)) (by kernel_rfl) rfl (fun g x => by kernel_rfl)) (by kernel_rfl) (fun x => by kernel_rfl)) (by kernel_rfl) rfl (fun g x => by kernel_rfl)
noncomputable def table_Group_16 (x : ((List V_easementref08_Pair) × Int × Unit)) : Option ((List (List V_easementref08_Pair)) × Unit) :=
  cond (cond (decide (x.2.1 < (0 : Int))) true (decide (x.2.1 > (1048576 : Int))))
    (some (([] : List (List V_easementref08_Pair)), ()))
    (ck (decide (0 ≤ x.2.1) && decide (x.2.1 ≤ x.2.1) && decide (x.2.1 * ((10 : Nat) : Int) ≤ 35184372088832)) <|
    Option.bind (lim table_Group_16_l10_step (x.2.1, List.replicate x.2.1.toNat ((0 : Int) : Int), x.1, (x.1.length : Int), (0 : Int), ())) fun y4 => out1 y4
      (fun z5 =>
        ck (decide (0 ≤ x.2.1) && decide (x.2.1 ≤ x.2.1) && decide (x.2.1 * ((26 : Nat) : Int) ≤ 35184372088832)) <|
        Option.bind (lim table_Group_16_l26_step (List.replicate x.2.1.toNat ([] : List V_easementref08_Pair), z5.1, (z5.1.length : Int), (0 : Int), ())) fun y8 => out1 y8
          (fun z9 =>
            Option.bind (lim table_Group_16_l38_step (x.2.1, z9.1, x.1, (x.1.length : Int), (0 : Int), ())) fun y13 => out1 y13
              (fun z14 =>
                some z14))))
noncomputable def table_Group_16_c : Ctr := ⟨(.cons (.lst t_easementref08_Pair) (.cons (.int .i64) .nil)), (.cons (.lst (.lst t_easementref08_Pair)) .nil), table_Group_16, none⟩
theorem table_Group_16_ok : CtrOK Try.prog 7 table_Group_16_c := fun_E k2 Try.func7 k2s (by kernel_rfl) (fun x => by kernel_rfl)
/-! ### easement/easementref08.Same: function 8 -/
noncomputable def ref08_Same_l8_step (g : T8 → Option ((Bool × Unit) ⊕ (Unit ⊕ Empty))) (x : T8) : Option ((Bool × Unit) ⊕ (Unit ⊕ Empty)) :=
  cond (decide (x.2.2.1 < (x.1.length : Int)))
    (ck (inB x.2.2.1 (x.1.length)) <|
    ck (inB x.2.2.1 (x.2.1.length)) <|
    let v1 := rdL t_easementref08_Pair x.1 x.2.2.1
    let v2 := rdL t_easementref08_Pair x.2.1 x.2.2.1
    cond (!((v1.1 == v2.1) && ((v1.2.1 == v2.2.1) && true)))
      (some (.inl (false, ())))
      (g (x.1, x.2.1, IntKind.i64.wrap (x.2.2.1 + (1 : Int)), ())))
    (some (.inr (.inl ())))
noncomputable def k3l1 : LCtr := ⟨[0, 1, 5], (.cons (.val (.lst t_easementref08_Pair)) (.cons (.val (.lst t_easementref08_Pair)) (.cons (.val (.int .i64)) .nil))), [], [], [⟨.ret, [4], (.cons (.val .bool) .nil), []⟩, ⟨(.exit 0), [], .nil, []⟩], fun _ => [], lim ref08_Same_l8_step⟩
theorem k3s : LsOK Try.prog Try.f8.ntmps (codeOf Try.f8) [(8, k3l1)] := loop_E 8 k3l1 k0 trivial (by kernel_rfl) rfl (fun g x => by kernel_rfl)
noncomputable def ref08_Same (x : ((List V_easementref08_Pair) × (List V_easementref08_Pair) × Unit)) : Option (Bool × Unit) :=
  cond ((x.1.length : Int) != (x.2.1.length : Int))
    (some (false, ()))
    (Option.bind (lim ref08_Same_l8_step (x.1, x.2.1, (0 : Int), ())) fun y1 => out2 y1
      (fun z2 =>
        some z2)
      (fun z3 =>
        some (true, ())))
noncomputable def ref08_Same_c : Ctr := ⟨(.cons (.lst t_easementref08_Pair) (.cons (.lst t_easementref08_Pair) .nil)), (.cons .bool .nil), ref08_Same, none⟩
theorem ref08_Same_ok : CtrOK Try.prog 8 ref08_Same_c := fun_E k0 Try.func8 k3s (by kernel_rfl) (fun x => by kernel_rfl)
/-! ### easement/table.Firsts[string]: function 23 -/
noncomputable def table_Firsts_79_j43_v (x : ((List ByteArray) × ByteArray × Bool × Unit)) : Option (((List ByteArray) × Unit) ⊕ Empty) :=
  cond (x.2.2.1)
    (ck (roomB (x.1 ++ [x.2.1]).length 18) <|
    some (.inl (x.1 ++ [x.2.1], ())))
    (some (.inl (x.1, ())))
noncomputable def k4l1 : LCtr := ⟨[3, 6, 21], (.cons (.own .str) (.cons (.val .str) (.cons (.val .bool) .nil))), [], [4, 8, 9, 10], [⟨.normal, [3], (.cons (.own .str) .nil), [none]⟩], fun _ => [], table_Firsts_79_j43_v⟩
noncomputable def table_Firsts_79_l8_step (g : T10 → Option T11) (x : T10) : Option T11 :=
  cond (decide (x.2.2.2.2.1 < x.2.2.2.1))
    (ck (inB x.2.2.2.2.1 (x.2.2.1.length)) <|
    let v1 := rdL .str x.2.2.1 x.2.2.2.2.1
    let v2 := mUpd (eqT .str) v1 (IntKind.i64.wrap ((mGet (eqT .str) (0 : Int) v1 x.2.1.1) + (1 : Int))) x.2.1.1 x.2.1.2
    Option.bind (table_Firsts_79_j43_v (x.1, v1, (mGet (eqT .str) (0 : Int) v1 v2) == (1 : Int), ())) fun y1 => out1 y1
      (fun z2 =>
        g (z2.1, (v2, mClk (eqT .str) v1 x.2.1.1 x.2.1.2), x.2.2.1, x.2.2.2.1, IntKind.i64.wrap (x.2.2.2.2.1 + (1 : Int)), ())))
    (some (.inl (x.1, x.2.1, ())))
noncomputable def k4l2 : LCtr := ⟨[3, 4, 8, 9, 10], (.cons (.own .str) (.cons (.mp .str (.int .i64)) (.cons (.val (.lst .str)) (.cons (.val (.int .i64)) (.cons (.val (.int .i64)) .nil))))), [none, some 1], [], [⟨(.exit 0), [3, 4], (.cons (.own .str) (.cons (.mp .str (.int .i64)) .nil)), [none, some 1]⟩], fun _ => [], lim table_Firsts_79_l8_step⟩
theorem k4s : LsOK Try.prog Try.f23.ntmps (codeOf Try.f23) [(8, k4l2), (1048619, k4l1)] := loop_E 8 k4l2 k0 (join_E 1048619 k4l1 k0 trivial (by kernel_rfl) (fun x => by kernel_rfl)) (by kernel_rfl) rfl (fun g x => by kernel_rfl)
noncomputable def table_Firsts_79 (x : ((List ByteArray) × Unit)) : Option ((List ByteArray) × Unit) :=
  Option.bind (lim table_Firsts_79_l8_step (([] : List ByteArray), (([] : List (ByteArray × Int × Nat)), 0), x.1, (x.1.length : Int), (0 : Int), ())) fun y3 => out1 y3
    (fun z4 =>
      some (z4.1, ()))
noncomputable def table_Firsts_79_c : Ctr := ⟨(.cons (.lst .str) .nil), (.cons (.lst .str) .nil), table_Firsts_79, none⟩
theorem table_Firsts_79_ok : CtrOK Try.prog 23 table_Firsts_79_c := fun_E k0 Try.func23 k4s (by kernel_rfl) (fun x => by kernel_rfl)
/-! ### easement/easementlaw08.awake: function 6 -/
noncomputable def k5 : FE Try.prog := ⟨[(7, table_Group_16_c), (8, ref08_Same_c), (23, table_Firsts_79_c)], [], [], [], ⟨table_Group_16_ok, ref08_Same_ok, table_Firsts_79_ok, trivial⟩, trivial, trivial⟩
noncomputable def law08_awake (x : Unit) : Option (Bool × Unit) :=
  Option.bind (table_Group_16 ([((1 : Int), (5 : Int), ()), ((0 : Int), (6 : Int), ()), ((1 : Int), (7 : Int), ())], (2 : Int), ())) fun y1 =>
  let v1 := (y1.1.length : Int) == (2 : Int)
  ck ((inB (1 : Int) (y1.1.length)) || !v1) <|
  cond (v1)
    (Option.bind (ref08_Same (rdL (.lst t_easementref08_Pair) y1.1 (1 : Int), [((1 : Int), (5 : Int), ()), ((1 : Int), (7 : Int), ())], ())) fun y2 =>
    cond (y2.1)
      (Option.bind (table_Firsts_79 ([(⟨#[97]⟩ : ByteArray), (⟨#[98]⟩ : ByteArray), (⟨#[97]⟩ : ByteArray)], ())) fun y3 =>
      some ((y3.1.length : Int) == (2 : Int), ()))
      (some (false, ())))
    (some (false, ()))
noncomputable def law08_awake_c : Ctr := ⟨.nil, (.cons .bool .nil), law08_awake, none⟩
theorem law08_awake_ok : CtrOK Try.prog 6 law08_awake_c := fun_E (ls := []) k5 Try.func6 trivial (by kernel_rfl) (fun x => by kernel_rfl)
/-! ### easement/table.Firsts[easement/easementref08.Pair]: function 9 -/
noncomputable def table_Firsts_18_j47_v (x : (V_easementref08_Pair × (List V_easementref08_Pair) × Bool × Unit)) : Option (((List V_easementref08_Pair) × V_easementref08_Pair × Unit) ⊕ Empty) :=
  cond (x.2.2.1)
    (ck (roomB (x.2.1 ++ [x.1]).length 19) <|
    some (.inl (x.2.1 ++ [x.1], x.1, ())))
    (some (.inl (x.2.1, x.1, ())))
noncomputable def k6l1 : LCtr := ⟨[6, 3, 23], (.cons (.ptr (.cons (.val (.int .i64)) (.cons (.val (.int .i64)) .nil))) (.cons (.own t_easementref08_Pair) (.cons (.val .bool) .nil))), [], [4, 8, 9, 10], [⟨.normal, [3, 6], (.cons (.own t_easementref08_Pair) (.cons (.ptr (.cons (.val (.int .i64)) (.cons (.val (.int .i64)) .nil))) .nil)), [none, some 0]⟩], fun _ => [], table_Firsts_18_j47_v⟩
noncomputable def table_Firsts_18_l8_step (g : T14 → Option T15) (x : T14) : Option T15 :=
  cond (decide (x.2.2.2.2.1 < x.2.2.2.1))
    (ck (inB x.2.2.2.2.1 (x.2.2.1.length)) <|
    let v1 := rdL t_easementref08_Pair x.2.2.1 x.2.2.2.2.1
    let v2 := mBorn (eqT t_easementref08_Pair) (0 : Int) v1 x.2.1.1 x.2.1.2
    let v3 := mEnt (eqT t_easementref08_Pair) (0 : Int) v1 x.2.1.1 x.2.1.2
    ck (mHas v2 v3) <|
    let v4 := mPut v2 (IntKind.i64.wrap ((mGet (eqT t_easementref08_Pair) (0 : Int) v1 x.2.1.1) + (1 : Int))) v3
    Option.bind (table_Firsts_18_j47_v (v1, x.1, (mGet (eqT t_easementref08_Pair) (0 : Int) v1 v4) == (1 : Int), ())) fun y1 => out1 y1
      (fun z2 =>
        g (z2.1, (v4, mClk (eqT t_easementref08_Pair) v1 x.2.1.1 x.2.1.2), x.2.2.1, x.2.2.2.1, IntKind.i64.wrap (x.2.2.2.2.1 + (1 : Int)), ())))
    (some (.inl (x.1, x.2.1, ())))
noncomputable def k6l2 : LCtr := ⟨[3, 4, 8, 9, 10], (.cons (.own t_easementref08_Pair) (.cons (.mp t_easementref08_Pair (.int .i64)) (.cons (.val (.lst t_easementref08_Pair)) (.cons (.val (.int .i64)) (.cons (.val (.int .i64)) .nil))))), [none, some 1], [], [⟨(.exit 0), [3, 4], (.cons (.own t_easementref08_Pair) (.cons (.mp t_easementref08_Pair (.int .i64)) .nil)), [none, some 1]⟩], fun _ => [], lim table_Firsts_18_l8_step⟩
theorem k6s : LsOK Try.prog Try.f9.ntmps (codeOf Try.f9) [(8, k6l2), (1048623, k6l1)] := loop_E 8 k6l2 k0 (join_E 1048623 k6l1 k0 trivial (by kernel_rfl) (fun x => by kernel_rfl)) (by kernel_rfl) rfl (fun g x => by kernel_rfl)
noncomputable def table_Firsts_18 (x : ((List V_easementref08_Pair) × Unit)) : Option ((List V_easementref08_Pair) × Unit) :=
  Option.bind (lim table_Firsts_18_l8_step (([] : List V_easementref08_Pair), (([] : List (V_easementref08_Pair × Int × Nat)), 0), x.1, (x.1.length : Int), (0 : Int), ())) fun y3 => out1 y3
    (fun z4 =>
      some (z4.1, ()))
noncomputable def table_Firsts_18_c : Ctr := ⟨(.cons (.lst t_easementref08_Pair) .nil), (.cons (.lst t_easementref08_Pair) .nil), table_Firsts_18, none⟩
theorem table_Firsts_18_ok : CtrOK Try.prog 9 table_Firsts_18_c := fun_E k0 Try.func9 k6s (by kernel_rfl) (fun x => by kernel_rfl)
/-! ### easement/easementref08.Firsts: function 10 -/
noncomputable def ref08_Firsts_l14_step (g : ((List V_easementref08_Pair) × Int × Bool × Int × Unit) → Option ((Bool × Unit) ⊕ Empty)) (x : ((List V_easementref08_Pair) × Int × Bool × Int × Unit)) : Option ((Bool × Unit) ⊕ Empty) :=
  cond (decide (x.2.2.2.1 < x.2.1))
    (ck ((inB x.2.2.2.1 (x.1.length)) || !(!x.2.2.1)) <|
    ck ((inB x.2.1 (x.1.length)) || !(!x.2.2.1)) <|
    let v1 := rdL t_easementref08_Pair x.1 x.2.2.2.1
    let v2 := rdL t_easementref08_Pair x.1 x.2.1
    g (x.1, x.2.1, cond x.2.2.1 true ((v1.1 == v2.1) && ((v1.2.1 == v2.2.1) && true)), IntKind.i64.wrap (x.2.2.2.1 + (1 : Int)), ()))
    (some (.inl (x.2.2.1, ())))
noncomputable def k7l1 : LCtr := ⟨[0, 4, 5, 6], (.cons (.val (.lst t_easementref08_Pair)) (.cons (.val (.int .i64)) (.cons (.val .bool) (.cons (.val (.int .i64)) .nil)))), [], [0, 3, 4], [⟨(.exit 2), [5], (.cons (.val .bool) .nil), []⟩], fun _ => [], lim ref08_Firsts_l14_step⟩
noncomputable def ref08_Firsts_j65_v (x : T16) : Option (((List V_easementref08_Pair) × Unit) ⊕ Empty) :=
  cond (x.2.2.2.1)
    (ck (inB x.2.2.1 (x.1.length)) <|
    let v1 := x.2.1 ++ [rdL t_easementref08_Pair x.1 x.2.2.1]
    ck (roomB v1.length 19) <|
    some (.inl (v1, ())))
    (some (.inl (x.2.1, ())))
noncomputable def k7l2 : LCtr := ⟨[0, 3, 4, 32], q16, [], [0, 4], [⟨.normal, [3], (.cons (.own t_easementref08_Pair) .nil), [none]⟩], fun _ => [], ref08_Firsts_j65_v⟩
noncomputable def ref08_Firsts_l6_step (g : T8 → Option (((List V_easementref08_Pair) × Unit) ⊕ Empty)) (x : T8) : Option (((List V_easementref08_Pair) × Unit) ⊕ Empty) :=
  cond (decide (x.2.2.1 < (x.1.length : Int)))
    (Option.bind (lim ref08_Firsts_l14_step (x.1, x.2.2.1, false, (0 : Int), ())) fun y1 => out1 y1
      (fun z2 =>
        Option.bind (ref08_Firsts_j65_v (x.1, x.2.1, x.2.2.1, !z2.1, ())) fun y3 => out1 y3
          (fun z4 =>
            g (x.1, z4.1, IntKind.i64.wrap (x.2.2.1 + (1 : Int)), ()))))
    (some (.inl (x.2.1, ())))
noncomputable def k7l3 : LCtr := ⟨[0, 3, 4], (.cons (.val (.lst t_easementref08_Pair)) (.cons (.own t_easementref08_Pair) (.cons (.val (.int .i64)) .nil))), [none], [], [⟨(.exit 0), [3], (.cons (.own t_easementref08_Pair) .nil), [none]⟩], fun _ => [], lim ref08_Firsts_l6_step⟩
theorem k7s : LsOK Try.prog Try.f10.ntmps (codeOf Try.f10) [(6, k7l3), (1441857, k7l2), (14, k7l1)] := loop_E 6 k7l3 k0 (join_E 1441857 k7l2 k0 (loop_E 14 k7l1 k0 trivial (by kernel_rfl) rfl (fun g x => by kernel_rfl)) (by kernel_rfl) (fun x => by kernel_rfl)) (by kernel_rfl) rfl (fun g x => by kernel_rfl)
noncomputable def ref08_Firsts (x : ((List V_easementref08_Pair) × Unit)) : Option ((List V_easementref08_Pair) × Unit) :=
  Option.bind (lim ref08_Firsts_l6_step (x.1, ([] : List V_easementref08_Pair), (0 : Int), ())) fun y5 => out1 y5
    (fun z6 =>
      some z6)
noncomputable def ref08_Firsts_c : Ctr := ⟨(.cons (.lst t_easementref08_Pair) .nil), (.cons (.lst t_easementref08_Pair) .nil), ref08_Firsts, none⟩
theorem ref08_Firsts_ok : CtrOK Try.prog 10 ref08_Firsts_c := fun_E k0 Try.func10 k7s (by kernel_rfl) (fun x => by kernel_rfl)
/-! ### easement/easementref08.Group: function 11 -/
noncomputable def ref08_Group_j41_v (x : T16) : Option (((List V_easementref08_Pair) × Unit) ⊕ Empty) :=
  cond (x.2.2.2.1)
    (ck (inB x.2.2.1 (x.1.length)) <|
    let v1 := x.2.1 ++ [rdL t_easementref08_Pair x.1 x.2.2.1]
    ck (roomB v1.length 19) <|
    some (.inl (v1, ())))
    (some (.inl (x.2.1, ())))
noncomputable def k8l1 : LCtr := ⟨[0, 5, 6, 20], q16, [], [0, 1, 6], [⟨.normal, [5], (.cons (.own t_easementref08_Pair) .nil), [none]⟩], fun _ => [], ref08_Group_j41_v⟩
noncomputable def ref08_Group_l6_step (g : T17 → Option (((List V_easementref08_Pair) × Unit) ⊕ Empty)) (x : T17) : Option (((List V_easementref08_Pair) × Unit) ⊕ Empty) :=
  cond (decide (x.2.2.2.1 < (x.1.length : Int)))
    (ck (inB x.2.2.2.1 (x.1.length)) <|
    Option.bind (ref08_Group_j41_v (x.1, x.2.2.1, x.2.2.2.1, (rdL t_easementref08_Pair x.1 x.2.2.2.1).1 == x.2.1, ())) fun y1 => out1 y1
      (fun z2 =>
        g (x.1, x.2.1, z2.1, IntKind.i64.wrap (x.2.2.2.1 + (1 : Int)), ())))
    (some (.inl (x.2.2.1, ())))
noncomputable def k8l2 : LCtr := ⟨[0, 1, 5, 6], (.cons (.val (.lst t_easementref08_Pair)) (.cons (.val (.int .i64)) (.cons (.own t_easementref08_Pair) (.cons (.val (.int .i64)) .nil)))), [none], [], [⟨(.exit 0), [5], (.cons (.own t_easementref08_Pair) .nil), [none]⟩], fun _ => [], lim ref08_Group_l6_step⟩
theorem k8s : LsOK Try.prog Try.f11.ntmps (codeOf Try.f11) [(6, k8l2), (786473, k8l1)] := loop_E 6 k8l2 k0 (join_E 786473 k8l1 k0 trivial (by kernel_rfl) (fun x => by kernel_rfl)) (by kernel_rfl) rfl (fun g x => by kernel_rfl)
noncomputable def ref08_Group (x : ((List V_easementref08_Pair) × Int × Unit)) : Option ((List V_easementref08_Pair) × Unit) :=
  Option.bind (lim ref08_Group_l6_step (x.1, x.2.1, ([] : List V_easementref08_Pair), (0 : Int), ())) fun y3 => out1 y3
    (fun z4 =>
      some z4)
noncomputable def ref08_Group_c : Ctr := ⟨(.cons (.lst t_easementref08_Pair) (.cons (.int .i64) .nil)), (.cons (.lst t_easementref08_Pair) .nil), ref08_Group, none⟩
theorem ref08_Group_ok : CtrOK Try.prog 11 ref08_Group_c := fun_E k0 Try.func11 k8s (by kernel_rfl) (fun x => by kernel_rfl)
/-! ### easement/easementlaw08.TableGroups: function 3 -/
noncomputable def k9 : FE Try.prog := ⟨[(6, law08_awake_c), (7, table_Group_16_c), (9, table_Firsts_18_c), (10, ref08_Firsts_c), (8, ref08_Same_c), (11, ref08_Group_c)], [], [], [], ⟨law08_awake_ok, table_Group_16_ok, table_Firsts_18_ok, ref08_Firsts_ok, ref08_Same_ok, ref08_Group_ok, trivial⟩, trivial, trivial⟩
noncomputable def law08_TableGroups_l22_step (g : T18 → Option ((Bool × Unit) ⊕ (Unit ⊕ Empty))) (x : T18) : Option ((Bool × Unit) ⊕ (Unit ⊕ Empty)) :=
  cond (decide (x.2.2.2.1 < x.2.1))
    (ck (inB x.2.2.2.1 (x.2.2.1.length)) <|
    Option.bind (ref08_Group (x.1, x.2.2.2)) fun y7 =>
    Option.bind (ref08_Same (rdL (.lst t_easementref08_Pair) x.2.2.1 x.2.2.2.1, y7)) fun y8 =>
    cond (!y8.1)
      (some (.inl (false, ())))
      (g (x.1, x.2.1, x.2.2.1, IntKind.i64.wrap (x.2.2.2.1 + (1 : Int)), ())))
    (some (.inr (.inl ())))
noncomputable def k9l1 : LCtr := ⟨[0, 1, 5, 6], (.cons (.val (.lst t_easementref08_Pair)) (.cons (.val (.int .i64)) (.cons (.val (.lst (.lst t_easementref08_Pair))) (.cons (.val (.int .i64)) .nil)))), [], [], [⟨.ret, [4], (.cons (.val .bool) .nil), []⟩, ⟨(.exit 0), [], .nil, []⟩], fun _ => [], lim law08_TableGroups_l22_step⟩
theorem k9s : LsOK Try.prog Try.f3.ntmps (codeOf Try.f3) [(22, k9l1)] := loop_E 22 k9l1 k9 trivial (by kernel_rfl) rfl (fun g x => by kernel_rfl)
noncomputable def law08_TableGroups (x : ((List V_easementref08_Pair) × Int × Unit)) : Option (Bool × Unit) :=
  cond (cond (decide ((x.1.length : Int) > (60 : Int))) true (cond (decide (x.2.1 > (100 : Int))) (decide (x.2.1 ≤ (1048576 : Int))) false))
    (Option.bind (law08_awake ()) fun y1 =>
    some y1)
    (Option.bind (table_Group_16 x) fun y2 =>
    Option.bind (table_Firsts_18 (x.1, ())) fun y3 =>
    Option.bind (ref08_Firsts (x.1, ())) fun y4 =>
    Option.bind (ref08_Same (y3.1, y4)) fun y5 =>
    cond (!y5.1)
      (some (false, ()))
      (cond (cond (decide (x.2.1 < (0 : Int))) true (decide (x.2.1 > (1048576 : Int))))
        (cond ((y2.1.length : Int) == (0 : Int))
          (Option.bind (law08_awake ()) fun y6 =>
          some y6)
          (some (false, ())))
        (cond ((y2.1.length : Int) != x.2.1)
          (some (false, ()))
          (Option.bind (lim law08_TableGroups_l22_step (x.1, x.2.1, y2.1, (0 : Int), ())) fun y9 => out2 y9
            (fun z10 =>
              some z10)
            (fun z11 =>
              Option.bind (law08_awake ()) fun y12 =>
              some y12)))))
noncomputable def law08_TableGroups_c : Ctr := ⟨(.cons (.lst t_easementref08_Pair) (.cons (.int .i64) .nil)), (.cons .bool .nil), law08_TableGroups, none⟩
theorem law08_TableGroups_ok : CtrOK Try.prog 3 law08_TableGroups_c := fun_E k9 Try.func3 k9s (by kernel_rfl) (fun x => by kernel_rfl)
/-! ### (*easement/table.Table[string]).Get: function 12 -/
noncomputable def table_Table_30 (x : ((Option ((List ByteArray) × (List Bool) × Int × Unit)) × Int × Unit)) : Option (ByteArray × Bool × Unit) :=
  let v1 := cond (x.1.isNone) true (decide (x.2.1 < (0 : Int)))
  ck ((x.1.isSome) || !(!v1)) <|
  cond (cond v1 true (decide (x.2.1 ≥ ((x.1.getD (Ty.dflt (.cons (.lst .str) (.cons (.lst .bool) (.cons (.int .i64) .nil))))).1.length : Int))))
    (some ((⟨#[]⟩ : ByteArray), false, ()))
    (ck (x.1.isSome) <|
    let v2 := (x.1.getD (Ty.dflt (.cons (.lst .str) (.cons (.lst .bool) (.cons (.int .i64) .nil))))).1
    ck (inB x.2.1 (v2.length)) <|
    ck (x.1.isSome) <|
    let v3 := (x.1.getD (Ty.dflt (.cons (.lst .str) (.cons (.lst .bool) (.cons (.int .i64) .nil))))).2.1
    ck (inB x.2.1 (v3.length)) <|
    some (rdL .str v2 x.2.1, rdL .bool v3 x.2.1, ()))
noncomputable def table_Table_30_c : Ctr := ⟨(.cons (.ptr (.cons (.lst .str) (.cons (.lst .bool) (.cons (.int .i64) .nil)))) (.cons (.int .i64) .nil)), (.cons .str (.cons .bool .nil)), table_Table_30, none⟩
theorem table_Table_30_ok : CtrOK Try.prog 12 table_Table_30_c := fun_E (ls := []) k0 Try.func12 trivial (by kernel_rfl) (fun x => by kernel_rfl)
/-! ### (*easement/table.Table[string]).Set: function 13, at objects -/
noncomputable def table_Table_31_p0 (x : (Unit × Int × ByteArray × Unit)) : Option ((Bool × Unit) ⊕ Empty) :=
  some (.inl (false, ()))
noncomputable def k11L : LCtr := ⟨[0, 1, 2], (.cons (.cst true) (.cons (.val (.int .i64)) (.cons (.val .str) .nil))), [], [], [⟨.ret, [6], (.cons (.val .bool) .nil), []⟩], fun _ => [], table_Table_31_p0⟩
noncomputable def table_Table_31_p0_c : PI := mkPI Try.f13 k11L
theorem table_Table_31_p0_ok : PIOK Try.prog 13 table_Table_31_p0_c := proc_E (ls := []) k0 Try.func13 trivial (by kernel_rfl) (fun x => by kernel_rfl)
/-! ### (*easement/table.Table[string]).Or: function 14 -/
noncomputable def k12 : FE Try.prog := ⟨[(12, table_Table_30_c)], [], [], [], ⟨table_Table_30_ok, trivial⟩, trivial, trivial⟩
noncomputable def table_Table_32 (x : ((Option ((List ByteArray) × (List Bool) × Int × Unit)) × Int × ByteArray × Unit)) : Option (ByteArray × Unit) :=
  Option.bind (table_Table_30 (x.1, x.2.1, ())) fun y1 =>
  cond (y1.2.1)
    (some (y1.1, ()))
    (some x.2.2)
noncomputable def table_Table_32_c : Ctr := ⟨(.cons (.ptr (.cons (.lst .str) (.cons (.lst .bool) (.cons (.int .i64) .nil)))) (.cons (.int .i64) (.cons .str .nil))), (.cons .str .nil), table_Table_32, none⟩
theorem table_Table_32_ok : CtrOK Try.prog 14 table_Table_32_c := fun_E (ls := []) k12 Try.func14 trivial (by kernel_rfl) (fun x => by kernel_rfl)
/-! ### (*easement/table.Table[string]).Len: function 15 -/
noncomputable def table_Table_33 (x : ((Option ((List ByteArray) × (List Bool) × Int × Unit)) × Unit)) : Option (Int × Unit) :=
  cond (x.1.isNone)
    (some ((0 : Int), ()))
    (ck (x.1.isSome) <|
    some (x.1.getD (Ty.dflt (.cons (.lst .str) (.cons (.lst .bool) (.cons (.int .i64) .nil))))).2.2)
noncomputable def table_Table_33_c : Ctr := ⟨(.cons (.ptr (.cons (.lst .str) (.cons (.lst .bool) (.cons (.int .i64) .nil)))) .nil), (.cons (.int .i64) .nil), table_Table_33, none⟩
theorem table_Table_33_ok : CtrOK Try.prog 15 table_Table_33_c := fun_E (ls := []) k0 Try.func15 trivial (by kernel_rfl) (fun x => by kernel_rfl)
/-! ### (*easement/table.Table[string]).Set: function 13, at objects -/
noncomputable def table_Table_31_p1_l6_step (g : T22 → Option T23) (x : T22) : Option T23 :=
  cond (decide ((x.1.1.length : Int) ≤ x.2.1))
    (let v1 := x.1.1 ++ [(⟨#[]⟩ : ByteArray)]
    ck (roomB v1.length 18) <|
    ck (roomB (x.1.2.1 ++ [false]).length 3) <|
    g ((v1, x.1.2.1 ++ [false], x.1.2.2), x.2))
    (some (.inl (x.1, ())))
noncomputable def k14l1 : LCtr := ⟨[0, 1], (.cons (.ptr q21) (.cons (.val (.int .i64)) .nil)), [some 0, none, none], [0, 1, 2], [⟨(.exit 0), [0], (.cons (.ptr q21) .nil), [some 0, none, none]⟩], fun _ => [], lim table_Table_31_p1_l6_step⟩
noncomputable def table_Table_31_p1_j103_v (x : (((List ByteArray) × (List Bool) × Int × Unit) × Bool × Unit)) : Option T23 :=
  cond (x.2.1)
    (some (.inl ((x.1.1, x.1.2.1, IntKind.i64.wrap (x.1.2.2.1 + (1 : Int)), ()), ())))
    (some (.inl (x.1, ())))
noncomputable def k14l2 : LCtr := ⟨[0, 51], (.cons (.ptr q21) (.cons (.val .bool) .nil)), [], [0, 1, 2], [⟨.normal, [0], (.cons (.ptr q21) .nil), [some 0, some 1, some 2]⟩], fun _ => [], table_Table_31_p1_j103_v⟩
theorem k14s : LsOK Try.prog Try.f13.ntmps (codeOf Try.f13) [(1048679, k14l2), (6, k14l1)] := join_E 1048679 k14l2 k0 (loop_E 6 k14l1 k0 trivial (by kernel_rfl) rfl (fun g x => by kernel_rfl)) (by kernel_rfl) (fun x => by kernel_rfl)
noncomputable def table_Table_31_p1 (x : (((List ByteArray) × (List Bool) × Int × Unit) × Int × ByteArray × Unit)) : Option ((Bool × ((List ByteArray) × (List Bool) × Int × Unit) × Unit) ⊕ Empty) :=
  cond (cond (decide (x.2.1 < (0 : Int))) true (decide (x.2.1 ≥ (1048576 : Int))))
    (some (.inl (false, x.1, ())))
    (Option.bind (lim table_Table_31_p1_l6_step (x.1, x.2.1, ())) fun y1 => out1 y1
      (fun z2 =>
        ck (inB x.2.1 (z2.1.2.1.length)) <|
        Option.bind (table_Table_31_p1_j103_v (z2.1, !(z2.1.2.1.getD x.2.1.toNat (Ty.dflt .bool)), ())) fun y3 => out1 y3
          (fun z4 =>
            ck (inB x.2.1 (z4.1.1.length)) <|
            ck (inB x.2.1 (z4.1.2.1.length)) <|
            some (.inl (true, (z4.1.1.set x.2.1.toNat x.2.2.1, z4.1.2.1.set x.2.1.toNat true, z4.1.2.2), ())))))
noncomputable def k14L : LCtr := ⟨[0, 1, 2], (.cons (.ptr q21) (.cons (.val (.int .i64)) (.cons (.val .str) .nil))), [], [], [⟨.ret, [6, 0], (.cons (.val .bool) (.cons (.ptr q21) .nil)), [some 0, none, none]⟩], fun _ => [], table_Table_31_p1⟩
noncomputable def table_Table_31_p1_c : PI := mkPI Try.f13 k14L
theorem table_Table_31_p1_ok : PIOK Try.prog 13 table_Table_31_p1_c := proc_E k0 Try.func13 k14s (by kernel_rfl) (fun x => by kernel_rfl)
/-! ### (*easement/table.Table[string]).Get: function 12, at objects -/
noncomputable def table_Table_30_p0 (x : (Unit × Int × Unit)) : Option ((ByteArray × Bool × Unit) ⊕ Empty) :=
  ck (false || !false) <|
  ck (false || !false) <|
  ck (false || !false) <|
  ck (false || !false) <|
  ck (false || !false) <|
  some (.inl ((⟨#[]⟩ : ByteArray), false, ()))
noncomputable def k15L : LCtr := ⟨[0, 1], (.cons (.cst true) (.cons (.val (.int .i64)) .nil)), [], [], [⟨.ret, [4, 5], (.cons (.val .str) (.cons (.val .bool) .nil)), []⟩], fun _ => [], table_Table_30_p0⟩
noncomputable def table_Table_30_p0_c : PI := mkPI Try.f12 k15L
theorem table_Table_30_p0_ok : PIOK Try.prog 12 table_Table_30_p0_c := proc_E (ls := []) k0 Try.func12 trivial (by kernel_rfl) (fun x => by kernel_rfl)
/-! ### (*easement/table.Table[string]).Get: function 12, at objects -/
noncomputable def table_Table_30_p1 (x : T22) : Option ((ByteArray × Bool × ((List ByteArray) × (List Bool) × Int × Unit) × Unit) ⊕ Empty) :=
  cond (cond (decide (x.2.1 < (0 : Int))) true (decide (x.2.1 ≥ (x.1.1.length : Int))))
    (some (.inl ((⟨#[]⟩ : ByteArray), false, x.1, ())))
    (ck (inB x.2.1 (x.1.1.length)) <|
    ck (inB x.2.1 (x.1.2.1.length)) <|
    some (.inl (x.1.1.getD x.2.1.toNat (Ty.dflt .str), x.1.2.1.getD x.2.1.toNat (Ty.dflt .bool), x.1, ())))
noncomputable def k16L : LCtr := ⟨[0, 1], (.cons (.ptr q21) (.cons (.val (.int .i64)) .nil)), [], [], [⟨.ret, [4, 5, 0], (.cons (.val .str) (.cons (.val .bool) (.cons (.ptr q21) .nil))), [some 0, some 1, some 2]⟩], fun _ => [], table_Table_30_p1⟩
noncomputable def table_Table_30_p1_c : PI := mkPI Try.f12 k16L
theorem table_Table_30_p1_ok : PIOK Try.prog 12 table_Table_30_p1_c := proc_E (ls := []) k0 Try.func12 trivial (by kernel_rfl) (fun x => by kernel_rfl)
/-! ### easement/easementlaw08.TableNone: function 4 -/
noncomputable def k17 : FE Try.prog := ⟨[(6, law08_awake_c), (14, table_Table_32_c), (15, table_Table_33_c)], [(12, [table_Table_30_p0_c, table_Table_30_p1_c]), (13, [table_Table_31_p0_c, table_Table_31_p1_c])], [], [], ⟨law08_awake_ok, table_Table_32_ok, table_Table_33_ok, trivial⟩, ⟨⟨table_Table_30_p0_ok, table_Table_30_p1_ok, trivial⟩, ⟨table_Table_31_p0_ok, table_Table_31_p1_ok, trivial⟩, trivial⟩, trivial⟩
noncomputable def law08_TableNone (x : (Int × ByteArray × Unit)) : Option (Bool × Unit) :=
  cond (cond (decide ((x.2.1.size : Int) > (50 : Int))) true (cond (decide (x.1 > (2000 : Int))) (decide (x.1 < (1048576 : Int))) false))
    (Option.bind (law08_awake ()) fun y1 =>
    some y1)
    (Option.bind (table_Table_30_p0 ((), x.1, ())) fun y2 => out1 y2
      (fun z3 =>
        Option.bind (table_Table_31_p0 ((), x)) fun y4 => out1 y4
          (fun z5 =>
            cond (!(cond (cond z5.1 true (!(z3.1.toList == (⟨#[]⟩ : ByteArray).toList))) true z3.2.1))
              (Option.bind (table_Table_32 ((none : Option ((List ByteArray) × (List Bool) × Int × Unit)), x)) fun y6 =>
              cond (!(!(y6.1.toList == x.2.1.toList)))
                (Option.bind (table_Table_33 ((none : Option ((List ByteArray) × (List Bool) × Int × Unit)), ())) fun y7 =>
                cond (y7.1 != (0 : Int))
                  (some (false, ()))
                  (Option.bind (table_Table_31_p1 ((([] : List ByteArray), ([] : List Bool), (0 : Int), ()), x)) fun y8 => out1 y8
                    (fun z9 =>
                      Option.bind (table_Table_30_p1 (z9.2.1, x.1, ())) fun y10 => out1 y10
                        (fun z11 =>
                          cond (cond (cond (cond (z9.1 == (cond (decide (x.1 ≥ (0 : Int))) (decide (x.1 < (1048576 : Int))) false)) (z11.2.1 == z9.1) false) (cond (z11.1.toList == x.2.1.toList) true (!z9.1)) false) (cond (z11.1.toList == (⟨#[]⟩ : ByteArray).toList) true z9.1) false)
                            (Option.bind (law08_awake ()) fun y12 =>
                            some y12)
                            (some (false, ()))))))
                (some (false, ())))
              (some (false, ())))))
noncomputable def law08_TableNone_c : Ctr := ⟨(.cons (.int .i64) (.cons .str .nil)), (.cons .bool .nil), law08_TableNone, none⟩
theorem law08_TableNone_ok : CtrOK Try.prog 4 law08_TableNone_c := fun_E (ls := []) k17 Try.func4 trivial (by kernel_rfl) (fun x => by kernel_rfl)
/-! ### easement/easementref08.Set: function 16 -/
noncomputable def ref08_Set_j71_v (x : (Int × Int × (List V_easementref08_Pair) × Bool × Bool × Unit)) : Option (((List V_easementref08_Pair) × Bool × Unit) ⊕ Empty) :=
  cond (x.2.2.2.2.1)
    (let v1 := x.2.2.1 ++ [(x.1, x.2.1, ())]
    ck (roomB v1.length 19) <|
    some (.inl (v1, true, ())))
    (some (.inl (x.2.2.1, x.2.2.2.1, ())))
noncomputable def k18l1 : LCtr := ⟨[1, 2, 8, 9, 35], (.cons (.val (.int .i64)) (.cons (.val (.int .i64)) (.cons (.own t_easementref08_Pair) (.cons (.val .bool) (.cons (.val .bool) .nil))))), [], [0, 1, 2, 10], [⟨.normal, [8, 9], (.cons (.own t_easementref08_Pair) (.cons (.val .bool) .nil)), [none]⟩], fun _ => [], ref08_Set_j71_v⟩
noncomputable def ref08_Set_j97_v (x : T16) : Option (((List V_easementref08_Pair) × Unit) ⊕ Empty) :=
  cond (x.2.2.2.1)
    (ck (inB x.2.2.1 (x.1.length)) <|
    let v1 := x.2.1 ++ [rdL t_easementref08_Pair x.1 x.2.2.1]
    ck (roomB v1.length 19) <|
    some (.inl (v1, ())))
    (some (.inl (x.2.1, ())))
noncomputable def k18l2 : LCtr := ⟨[0, 8, 10, 48], q16, [], [0, 1, 2, 9, 10], [⟨.normal, [8], (.cons (.own t_easementref08_Pair) .nil), [none]⟩], fun _ => [], ref08_Set_j97_v⟩
noncomputable def ref08_Set_l12_step (g : T29 → Option (((List V_easementref08_Pair) × Bool × Unit) ⊕ Empty)) (x : T29) : Option (((List V_easementref08_Pair) × Bool × Unit) ⊕ Empty) :=
  cond (decide (x.2.2.2.2.2.1 < (x.1.length : Int)))
    (ck ((inB x.2.2.2.2.2.1 (x.1.length)) || !(!x.2.2.2.2.1)) <|
    Option.bind (ref08_Set_j71_v (x.2.1, x.2.2.1, x.2.2.2.1, x.2.2.2.2.1, cond (!x.2.2.2.2.1) (decide ((rdL t_easementref08_Pair x.1 x.2.2.2.2.2.1).1 ≥ x.2.1)) false, ())) fun y1 => out1 y1
      (fun z2 =>
        ck (inB x.2.2.2.2.2.1 (x.1.length)) <|
        Option.bind (ref08_Set_j97_v (x.1, z2.1, x.2.2.2.2.2.1, (rdL t_easementref08_Pair x.1 x.2.2.2.2.2.1).1 != x.2.1, ())) fun y3 => out1 y3
          (fun z4 =>
            g (x.1, x.2.1, x.2.2.1, z4.1, z2.2.1, IntKind.i64.wrap (x.2.2.2.2.2.1 + (1 : Int)), ()))))
    (some (.inl (x.2.2.2.1, x.2.2.2.2.1, ())))
noncomputable def k18l3 : LCtr := ⟨[0, 1, 2, 8, 9, 10], (.cons (.val (.lst t_easementref08_Pair)) (.cons (.val (.int .i64)) (.cons (.val (.int .i64)) (.cons (.own t_easementref08_Pair) (.cons (.val .bool) (.cons (.val (.int .i64)) .nil)))))), [none], [1, 2], [⟨(.exit 0), [8, 9], (.cons (.own t_easementref08_Pair) (.cons (.val .bool) .nil)), [none]⟩], fun _ => [], lim ref08_Set_l12_step⟩
noncomputable def ref08_Set_j115_v (x : (Int × Int × (List V_easementref08_Pair) × Bool × Unit)) : Option (((List V_easementref08_Pair) × Unit) ⊕ Empty) :=
  cond (x.2.2.2.1)
    (let v1 := x.2.2.1 ++ [(x.1, x.2.1, ())]
    ck (roomB v1.length 19) <|
    some (.inl (v1, ())))
    (some (.inl (x.2.2.1, ())))
noncomputable def k18l4 : LCtr := ⟨[1, 2, 8, 57], (.cons (.val (.int .i64)) (.cons (.val (.int .i64)) (.cons (.own t_easementref08_Pair) (.cons (.val .bool) .nil)))), [], [], [⟨.normal, [8], (.cons (.own t_easementref08_Pair) .nil), [none]⟩], fun _ => [], ref08_Set_j115_v⟩
theorem k18s : LsOK Try.prog Try.f16.ntmps (codeOf Try.f16) [(1835123, k18l4), (12, k18l3), (1572961, k18l2), (1179719, k18l1)] := join_E 1835123 k18l4 k0 (loop_E 12 k18l3 k0 (join_E 1572961 k18l2 k0 (join_E 1179719 k18l1 k0 trivial (by kernel_rfl) (fun x => by kernel_rfl)) (by kernel_rfl) (fun x => by kernel_rfl)) (by kernel_rfl) rfl (fun g x => by kernel_rfl)) (by kernel_rfl) (fun x => by kernel_rfl)
noncomputable def ref08_Set (x : ((List V_easementref08_Pair) × Int × Int × Unit)) : Option ((List V_easementref08_Pair) × Bool × Unit) :=
  cond (cond (decide (x.2.1 < (0 : Int))) true (decide (x.2.1 ≥ (1048576 : Int))))
    (some (x.1, false, ()))
    (Option.bind (lim ref08_Set_l12_step (x.1, x.2.1, x.2.2.1, ([] : List V_easementref08_Pair), false, (0 : Int), ())) fun y5 => out1 y5
      (fun z6 =>
        Option.bind (ref08_Set_j115_v (x.2.1, x.2.2.1, z6.1, !z6.2.1, ())) fun y7 => out1 y7
          (fun z8 =>
            some (z8.1, true, ()))))
noncomputable def ref08_Set_c : Ctr := ⟨(.cons (.lst t_easementref08_Pair) (.cons (.int .i64) (.cons (.int .i64) .nil))), (.cons (.lst t_easementref08_Pair) (.cons .bool .nil)), ref08_Set, none⟩
theorem ref08_Set_ok : CtrOK Try.prog 16 ref08_Set_c := fun_E k0 Try.func16 k18s (by kernel_rfl) (fun x => by kernel_rfl)
/-! ### (*easement/table.Table[int]).Set: function 17, at objects -/
noncomputable def table_Table_35_p0_l6_step (g : (((List Int) × (List Bool) × Int × Unit) × Int × Unit) → Option ((((List Int) × (List Bool) × Int × Unit) × Unit) ⊕ Empty)) (x : (((List Int) × (List Bool) × Int × Unit) × Int × Unit)) : Option ((((List Int) × (List Bool) × Int × Unit) × Unit) ⊕ Empty) :=
  cond (decide ((x.1.1.length : Int) ≤ x.2.1))
    (ck (roomB (x.1.1 ++ [(0 : Int)]).length 10) <|
    ck (roomB (x.1.2.1 ++ [false]).length 3) <|
    g ((x.1.1 ++ [(0 : Int)], x.1.2.1 ++ [false], x.1.2.2), x.2))
    (some (.inl (x.1, ())))
noncomputable def k19l1 : LCtr := ⟨[0, 1], (.cons (.ptr q26) (.cons (.val (.int .i64)) .nil)), [some 0, none, none], [0, 1, 2], [⟨(.exit 0), [0], (.cons (.ptr q26) .nil), [some 0, none, none]⟩], fun _ => [], lim table_Table_35_p0_l6_step⟩
noncomputable def table_Table_35_p0_j103_v (x : (((List Int) × (List Bool) × Int × Unit) × Bool × Unit)) : Option ((((List Int) × (List Bool) × Int × Unit) × Unit) ⊕ Empty) :=
  cond (x.2.1)
    (some (.inl ((x.1.1, x.1.2.1, IntKind.i64.wrap (x.1.2.2.1 + (1 : Int)), ()), ())))
    (some (.inl (x.1, ())))
noncomputable def k19l2 : LCtr := ⟨[0, 51], (.cons (.ptr q26) (.cons (.val .bool) .nil)), [], [0, 1, 2], [⟨.normal, [0], (.cons (.ptr q26) .nil), [some 0, some 1, some 2]⟩], fun _ => [], table_Table_35_p0_j103_v⟩
theorem k19s : LsOK Try.prog Try.f17.ntmps (codeOf Try.f17) [(1048679, k19l2), (6, k19l1)] := join_E 1048679 k19l2 k0 (loop_E 6 k19l1 k0 trivial (by kernel_rfl) rfl (fun g x => by kernel_rfl)) (by kernel_rfl) (fun x => by kernel_rfl)
noncomputable def table_Table_35_p0 (x : (((List Int) × (List Bool) × Int × Unit) × Int × Int × Unit)) : Option ((Bool × ((List Int) × (List Bool) × Int × Unit) × Unit) ⊕ Empty) :=
  cond (cond (decide (x.2.1 < (0 : Int))) true (decide (x.2.1 ≥ (1048576 : Int))))
    (some (.inl (false, x.1, ())))
    (Option.bind (lim table_Table_35_p0_l6_step (x.1, x.2.1, ())) fun y1 => out1 y1
      (fun z2 =>
        ck (inB x.2.1 (z2.1.2.1.length)) <|
        Option.bind (table_Table_35_p0_j103_v (z2.1, !(z2.1.2.1.getD x.2.1.toNat (Ty.dflt .bool)), ())) fun y3 => out1 y3
          (fun z4 =>
            ck (inB x.2.1 (z4.1.1.length)) <|
            ck (inB x.2.1 (z4.1.2.1.length)) <|
            some (.inl (true, (z4.1.1.set x.2.1.toNat x.2.2.1, z4.1.2.1.set x.2.1.toNat true, z4.1.2.2), ())))))
noncomputable def k19L : LCtr := ⟨[0, 1, 2], (.cons (.ptr q26) (.cons (.val (.int .i64)) (.cons (.val (.int .i64)) .nil))), [], [], [⟨.ret, [6, 0], (.cons (.val .bool) (.cons (.ptr q26) .nil)), [some 0, none, none]⟩], fun _ => [], table_Table_35_p0⟩
noncomputable def table_Table_35_p0_c : PI := mkPI Try.f17 k19L
theorem table_Table_35_p0_ok : PIOK Try.prog 17 table_Table_35_p0_c := proc_E k0 Try.func17 k19s (by kernel_rfl) (fun x => by kernel_rfl)
/-! ### (*easement/table.Table[int]).Get: function 18, at objects -/
noncomputable def table_Table_36_p0 (x : (((List Int) × (List Bool) × Int × Unit) × Int × Unit)) : Option ((Int × Bool × ((List Int) × (List Bool) × Int × Unit) × Unit) ⊕ Empty) :=
  cond (cond (decide (x.2.1 < (0 : Int))) true (decide (x.2.1 ≥ (x.1.1.length : Int))))
    (some (.inl ((0 : Int), false, x.1, ())))
    (ck (inB x.2.1 (x.1.1.length)) <|
    ck (inB x.2.1 (x.1.2.1.length)) <|
    some (.inl (x.1.1.getD x.2.1.toNat (Ty.dflt (.int .i64)), x.1.2.1.getD x.2.1.toNat (Ty.dflt .bool), x.1, ())))
noncomputable def k20L : LCtr := ⟨[0, 1], (.cons (.ptr q26) (.cons (.val (.int .i64)) .nil)), [], [], [⟨.ret, [4, 5, 0], (.cons (.val (.int .i64)) (.cons (.val .bool) (.cons (.ptr q26) .nil))), [some 0, some 1, some 2]⟩], fun _ => [], table_Table_36_p0⟩
noncomputable def table_Table_36_p0_c : PI := mkPI Try.f18 k20L
theorem table_Table_36_p0_ok : PIOK Try.prog 18 table_Table_36_p0_c := proc_E (ls := []) k0 Try.func18 trivial (by kernel_rfl) (fun x => by kernel_rfl)
/-! ### easement/easementref08.Get: function 19 -/
noncomputable def ref08_Get_l4_step (g : ((List V_easementref08_Pair) × Int × Int × Unit) → Option (V_api_Slot ⊕ (Unit ⊕ Empty))) (x : ((List V_easementref08_Pair) × Int × Int × Unit)) : Option (V_api_Slot ⊕ (Unit ⊕ Empty)) :=
  cond (decide (x.2.2.1 < (x.1.length : Int)))
    (ck (inB x.2.2.1 (x.1.length)) <|
    cond ((rdL t_easementref08_Pair x.1 x.2.2.1).1 == x.2.1)
      (ck (inB x.2.2.1 (x.1.length)) <|
      some (.inl ((rdL t_easementref08_Pair x.1 x.2.2.1).2.1, true, ())))
      (g (x.1, x.2.1, IntKind.i64.wrap (x.2.2.1 + (1 : Int)), ())))
    (some (.inr (.inl ())))
noncomputable def k21l1 : LCtr := ⟨[0, 1, 6], (.cons (.val (.lst t_easementref08_Pair)) (.cons (.val (.int .i64)) (.cons (.val (.int .i64)) .nil))), [], [], [⟨.ret, [4, 5], (.cons (.val (.int .i64)) (.cons (.val .bool) .nil)), []⟩, ⟨(.exit 0), [], .nil, []⟩], fun _ => [], lim ref08_Get_l4_step⟩
theorem k21s : LsOK Try.prog Try.f19.ntmps (codeOf Try.f19) [(4, k21l1)] := loop_E 4 k21l1 k0 trivial (by kernel_rfl) rfl (fun g x => by kernel_rfl)
noncomputable def ref08_Get (x : ((List V_easementref08_Pair) × Int × Unit)) : Option (Int × Bool × Unit) :=
  Option.bind (lim ref08_Get_l4_step (x.1, x.2.1, (0 : Int), ())) fun y1 => out2 y1
    (fun z2 =>
      some z2)
    (fun z3 =>
      some ((0 : Int), false, ()))
noncomputable def ref08_Get_c : Ctr := ⟨(.cons (.lst t_easementref08_Pair) (.cons (.int .i64) .nil)), (.cons (.int .i64) (.cons .bool .nil)), ref08_Get, none⟩
theorem ref08_Get_ok : CtrOK Try.prog 19 ref08_Get_c := fun_E k0 Try.func19 k21s (by kernel_rfl) (fun x => by kernel_rfl)
/-! ### (*easement/table.Table[int]).Len: function 20 -/
noncomputable def table_Table_38 (x : ((Option ((List Int) × (List Bool) × Int × Unit)) × Unit)) : Option (Int × Unit) :=
  cond (x.1.isNone)
    (some ((0 : Int), ()))
    (ck (x.1.isSome) <|
    some (x.1.getD (Ty.dflt (.cons (.lst (.int .i64)) (.cons (.lst .bool) (.cons (.int .i64) .nil))))).2.2)
noncomputable def table_Table_38_c : Ctr := ⟨(.cons (.ptr (.cons (.lst (.int .i64)) (.cons (.lst .bool) (.cons (.int .i64) .nil)))) .nil), (.cons (.int .i64) .nil), table_Table_38, none⟩
theorem table_Table_38_ok : CtrOK Try.prog 20 table_Table_38_c := fun_E (ls := []) k0 Try.func20 trivial (by kernel_rfl) (fun x => by kernel_rfl)
/-! ### (*easement/table.Table[int]).Get: function 18 -/
noncomputable def table_Table_36 (x : ((Option ((List Int) × (List Bool) × Int × Unit)) × Int × Unit)) : Option (Int × Bool × Unit) :=
  let v1 := cond (x.1.isNone) true (decide (x.2.1 < (0 : Int)))
  ck ((x.1.isSome) || !(!v1)) <|
  cond (cond v1 true (decide (x.2.1 ≥ ((x.1.getD (Ty.dflt (.cons (.lst (.int .i64)) (.cons (.lst .bool) (.cons (.int .i64) .nil))))).1.length : Int))))
    (some ((0 : Int), false, ()))
    (ck (x.1.isSome) <|
    let v2 := (x.1.getD (Ty.dflt (.cons (.lst (.int .i64)) (.cons (.lst .bool) (.cons (.int .i64) .nil))))).1
    ck (inB x.2.1 (v2.length)) <|
    ck (x.1.isSome) <|
    let v3 := (x.1.getD (Ty.dflt (.cons (.lst (.int .i64)) (.cons (.lst .bool) (.cons (.int .i64) .nil))))).2.1
    ck (inB x.2.1 (v3.length)) <|
    some (rdL (.int .i64) v2 x.2.1, rdL .bool v3 x.2.1, ()))
noncomputable def table_Table_36_c : Ctr := ⟨(.cons (.ptr (.cons (.lst (.int .i64)) (.cons (.lst .bool) (.cons (.int .i64) .nil)))) (.cons (.int .i64) .nil)), (.cons (.int .i64) (.cons .bool .nil)), table_Table_36, none⟩
theorem table_Table_36_ok : CtrOK Try.prog 18 table_Table_36_c := fun_E (ls := []) k0 Try.func18 trivial (by kernel_rfl) (fun x => by kernel_rfl)
/-! ### (*easement/table.Table[int]).Or: function 21 -/
noncomputable def k24 : FE Try.prog := ⟨[(18, table_Table_36_c)], [], [], [], ⟨table_Table_36_ok, trivial⟩, trivial, trivial⟩
noncomputable def table_Table_39 (x : ((Option ((List Int) × (List Bool) × Int × Unit)) × Int × Int × Unit)) : Option (Int × Unit) :=
  Option.bind (table_Table_36 (x.1, x.2.1, ())) fun y1 =>
  cond (y1.2.1)
    (some (y1.1, ()))
    (some x.2.2)
noncomputable def table_Table_39_c : Ctr := ⟨(.cons (.ptr (.cons (.lst (.int .i64)) (.cons (.lst .bool) (.cons (.int .i64) .nil)))) (.cons (.int .i64) (.cons (.int .i64) .nil))), (.cons (.int .i64) .nil), table_Table_39, none⟩
theorem table_Table_39_ok : CtrOK Try.prog 21 table_Table_39_c := fun_E (ls := []) k24 Try.func21 trivial (by kernel_rfl) (fun x => by kernel_rfl)
/-! ### easement/easementlaw08.TablePlays: function 5 -/
noncomputable def k25 : FE Try.prog := ⟨[(6, law08_awake_c), (16, ref08_Set_c), (19, ref08_Get_c), (20, table_Table_38_c), (21, table_Table_39_c), (22, law08_pairs_c), (8, ref08_Same_c)], [(17, [table_Table_35_p0_c]), (18, [table_Table_36_p0_c])], [], [], ⟨law08_awake_ok, ref08_Set_ok, ref08_Get_ok, table_Table_38_ok, table_Table_39_ok, law08_pairs_ok, ref08_Same_ok, trivial⟩, ⟨⟨table_Table_35_p0_ok, trivial⟩, ⟨table_Table_36_p0_ok, trivial⟩, trivial⟩, trivial⟩
noncomputable def law08_TablePlays_l12_step (g : T35 → Option T36) (x : T35) : Option T36 :=
  cond (decide (x.2.2.2.2.2.1 < (x.2.1.length : Int)))
    (ck (inB x.2.2.2.2.2.1 (x.2.1.length)) <|
    let v1 := decide ((rdL t_easementref08_Pair x.2.1 x.2.2.2.2.2.1).1 ≥ (2000 : Int))
    ck ((inB x.2.2.2.2.2.1 (x.2.1.length)) || !v1) <|
    cond (cond v1 (decide ((rdL t_easementref08_Pair x.2.1 x.2.2.2.2.2.1).1 < (1048576 : Int))) false)
      (Option.bind (law08_awake ()) fun y2 =>
      some (.inl (y2.1, x.1, ())))
      (ck (inB x.2.2.2.2.2.1 (x.2.1.length)) <|
      ck (inB x.2.2.2.2.2.1 (x.2.1.length)) <|
      Option.bind (ref08_Set (x.2.2.2.2.1, rdL t_easementref08_Pair x.2.1 x.2.2.2.2.2.1)) fun y3 =>
      ck (inB x.2.2.2.2.2.1 (x.2.1.length)) <|
      ck (inB x.2.2.2.2.2.1 (x.2.1.length)) <|
      Option.bind (table_Table_35_p0 (x.1, rdL t_easementref08_Pair x.2.1 x.2.2.2.2.2.1)) fun y4 => out1 y4
        (fun z5 =>
          cond (!(z5.1 == y3.2.1))
            (some (.inl (false, z5.2)))
            (Option.bind (table_Table_36_p0 (z5.2.1, x.2.2.1, ())) fun y6 => out1 y6
              (fun z7 =>
                Option.bind (ref08_Get (y3.1, x.2.2.1, ())) fun y8 =>
                cond (!(cond (z7.1 != y8.1) true (!(z7.2.1 == y8.2.1))))
                  (Option.bind (table_Table_38 (some z7.2.2.1, ())) fun y9 =>
                  cond (!(y9.1 != (y3.1.length : Int)))
                    (cond (y8.2.1)
                      (Option.bind (table_Table_39 (some z7.2.2.1, x.2.2.1, x.2.2.2.1, ())) fun y10 =>
                      cond (!(y10.1 != y8.1))
                        (cond (!y8.2.1)
                          (Option.bind (table_Table_39 (some z7.2.2.1, x.2.2.1, x.2.2.2.1, ())) fun y11 =>
                          cond (y11.1 != x.2.2.2.1)
                            (some (.inl (false, z7.2.2)))
                            (g (z7.2.2.1, x.2.1, x.2.2.1, x.2.2.2.1, y3.1, IntKind.i64.wrap (x.2.2.2.2.2.1 + (1 : Int)), ())))
                          (g (z7.2.2.1, x.2.1, x.2.2.1, x.2.2.2.1, y3.1, IntKind.i64.wrap (x.2.2.2.2.2.1 + (1 : Int)), ())))
                        (some (.inl (false, z7.2.2))))
                      (cond (!y8.2.1)
                        (Option.bind (table_Table_39 (some z7.2.2.1, x.2.2.1, x.2.2.2.1, ())) fun y12 =>
                        cond (y12.1 != x.2.2.2.1)
                          (some (.inl (false, z7.2.2)))
                          (g (z7.2.2.1, x.2.1, x.2.2.1, x.2.2.2.1, y3.1, IntKind.i64.wrap (x.2.2.2.2.2.1 + (1 : Int)), ())))
                        (g (z7.2.2.1, x.2.1, x.2.2.1, x.2.2.2.1, y3.1, IntKind.i64.wrap (x.2.2.2.2.2.1 + (1 : Int)), ()))))
                    (some (.inl (false, z7.2.2))))
                  (some (.inl (false, z7.2.2))))))))
    (some (.inr (.inl (x.2.2.2.2.1, x.1, ()))))
noncomputable def k25l1 : LCtr := ⟨[7, 0, 1, 2, 8, 9], (.cons (.ptr q26) (.cons (.val (.lst t_easementref08_Pair)) (.cons (.val (.int .i64)) (.cons (.val (.int .i64)) (.cons (.val (.lst t_easementref08_Pair)) (.cons (.val (.int .i64)) .nil)))))), [some 0, none, none], [7], [⟨.ret, [6, 7], (.cons (.val .bool) (.cons (.ptr q26) .nil)), [some 0, none, none]⟩, ⟨(.exit 0), [8, 7], (.cons (.val (.lst t_easementref08_Pair)) (.cons (.ptr q26) .nil)), [some 0, none, none]⟩], fun _ => [], lim law08_TablePlays_l12_step⟩
theorem k25s : LsOK Try.prog Try.f5.ntmps (codeOf Try.f5) [(12, k25l1)] := loop_E 12 k25l1 k25 trivial (by kernel_rfl) rfl (fun g x => by kernel_rfl)
noncomputable def law08_TablePlays (x : ((List V_easementref08_Pair) × Int × Int × Unit)) : Option (Bool × Unit) :=
  cond (decide ((x.1.length : Int) > (40 : Int)))
    (Option.bind (law08_awake ()) fun y1 =>
    some y1)
    (Option.bind (lim law08_TablePlays_l12_step ((([] : List Int), ([] : List Bool), (0 : Int), ()), x.1, x.2.1, x.2.2.1, ([] : List V_easementref08_Pair), (0 : Int), ())) fun y13 => out2 y13
      (fun z14 =>
        some (z14.1, ()))
      (fun z15 =>
        Option.bind (law08_pairs (some z15.2.1, ())) fun y16 =>
        cond (y16.2.1)
          (Option.bind (ref08_Same (y16.1, z15.1, ())) fun y17 =>
          cond (y17.1)
            (Option.bind (law08_awake ()) fun y18 =>
            some y18)
            (some (false, ())))
          (some (false, ()))))
noncomputable def law08_TablePlays_c : Ctr := ⟨(.cons (.lst t_easementref08_Pair) (.cons (.int .i64) (.cons (.int .i64) .nil))), (.cons .bool .nil), law08_TablePlays, none⟩
theorem law08_TablePlays_ok : CtrOK Try.prog 5 law08_TablePlays_c := fun_E k25 Try.func5 k25s (by kernel_rfl) (fun x => by kernel_rfl)
end Go.XD


