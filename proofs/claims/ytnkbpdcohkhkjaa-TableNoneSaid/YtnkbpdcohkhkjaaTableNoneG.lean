/- For every input the law TableNone returns true, and its arguments read as they did: no condition. -/
import Derived.Test.YtnkbpdcohkhkjaaProg
import Derived.KernelRfl
import Derived.Test.YtnkbpdcohkhkjaaGe
set_option linter.unusedVariables false
set_option linter.unusedSimpArgs false
set_option linter.unusedSectionVars false
set_option linter.unnecessarySimpa false
set_option linter.deprecated false
set_option maxRecDepth 100000
namespace Go.XD
open Go.Proofs

abbrev t_easementref08_Pair : Ty := (.st (.cons (.int .i64) (.cons (.int .i64) .nil)))
abbrev V_easementref08_Pair : Type := (Int × Int × Unit)
abbrev t_point_Points : Ty := (.st (.cons (.lst (.int .i64)) .nil))
abbrev V_point_Points : Type := ((List Int) × Unit)
abbrev T1 : Type := (Int × (List Int) × (List V_easementref08_Pair) × Int × Int × Unit)
abbrev T3 : Type := ((List (List V_easementref08_Pair)) × (List Int) × Int × Int × Unit)
abbrev T4 : Type := (((List (List V_easementref08_Pair)) × (List Int) × Unit) ⊕ Empty)
abbrev T7 : Type := (Int × (List (List V_easementref08_Pair)) × (List V_easementref08_Pair) × Int × Int × Unit)
abbrev T8 : Type := ((List V_easementref08_Pair) × (List V_easementref08_Pair) × Int × Unit)
abbrev T10 : Type := ((List ByteArray) × (List (ByteArray × Int × Nat) × Nat) × (List ByteArray) × Int × Int × Unit)
abbrev T11 : Type := (((List ByteArray) × (List (ByteArray × Int × Nat) × Nat) × Unit) ⊕ Empty)
abbrev T14 : Type := ((List V_easementref08_Pair) × (List (V_easementref08_Pair × Int × Nat) × Nat) × (List V_easementref08_Pair) × Int × Int × Unit)
abbrev T15 : Type := (((List V_easementref08_Pair) × (List (V_easementref08_Pair × Int × Nat) × Nat) × Unit) ⊕ Empty)
abbrev T16 : Type := ((List V_easementref08_Pair) × (List V_easementref08_Pair) × Int × Bool × Unit)
abbrev T17 : Type := ((List V_easementref08_Pair) × Int × (List V_easementref08_Pair) × Int × Unit)
abbrev T18 : Type := ((List V_easementref08_Pair) × Int × (List (List V_easementref08_Pair)) × Int × Unit)
abbrev T22 : Type := (((List ByteArray) × (List Bool) × Int × Unit) × Int × Unit)
abbrev T23 : Type := ((((List ByteArray) × (List Bool) × Int × Unit) × Unit) ⊕ Empty)
abbrev q16 : CP := (.cons (.val (.lst t_easementref08_Pair)) (.cons (.own t_easementref08_Pair) (.cons (.val (.int .i64)) (.cons (.val .bool) .nil))))
abbrev q21 : CP := (.cons (.own .str) (.cons (.own .bool) (.cons (.val (.int .i64)) .nil)))
noncomputable def k0 : FE Try.prog := ⟨[], [], [], [], trivial, trivial, trivial⟩

/-! ### (easement/easementref08.Pair).Key: function 42 -/
noncomputable def ref08_Pair_Key (x : (V_easementref08_Pair × Unit)) : Option (Int × Unit) :=
  some (x.1.1, ())
noncomputable def ref08_Pair_Key_c : Ctr := ⟨(.cons t_easementref08_Pair .nil), (.cons (.int .i64) .nil), ref08_Pair_Key, none⟩
theorem ref08_Pair_Key_ok : CtrOK Try.prog 42 ref08_Pair_Key_c := fun_E (ls := []) k0 Try.func42 trivial (by kernel_rfl) (fun x => by kernel_rfl)
/-! ### easement/table.Group[easement/easementref08.Pair]: function 7 -/
noncomputable def k2 : FE Try.prog := ⟨[(42, ref08_Pair_Key_c)], [], [(2000047, [1]), (3000016, [9]), (3000023, [9])], [], ⟨ref08_Pair_Key_ok, trivial⟩, trivial, trivial⟩
noncomputable def table_Group_16_j77_v (x : ((List Int) × Int × Bool × Unit)) : Option (V_point_Points ⊕ Empty) :=
  cond (x.2.2.1)
    (ck (inB x.2.1 (x.1.length)) <|
    ck (inB x.2.1 (x.1.length)) <|
    some (.inl (x.1.set x.2.1.toNat (IntKind.i64.wrap ((x.1.getD x.2.1.toNat (Ty.dflt (.int .i64))) + (1 : Int))), ())))
    (some (.inl (x.1, ())))
noncomputable def k2l1 : LCtr := ⟨[5, 8, 38], (.cons (.own (.int .i64)) (.cons (.val (.int .i64)) (.cons (.val .bool) .nil))), [], [1, 5, 23, 24, 25], [⟨.normal, [5], (.cons (.own (.int .i64)) .nil), [some 0]⟩], fun _ => [], table_Group_16_j77_v⟩
noncomputable def table_Group_16_l10_step (g : T1 → Option (V_point_Points ⊕ Empty)) (x : T1) : Option (V_point_Points ⊕ Empty) :=
  cond (decide (x.2.2.2.2.1 < x.2.2.2.1))
    (ck (inB x.2.2.2.2.1 (x.2.2.1.length)) <|
    Option.bind (ref08_Pair_Key (rdL t_easementref08_Pair x.2.2.1 x.2.2.2.2.1, ())) fun y1 =>
    Option.bind (table_Group_16_j77_v (x.2.1, y1.1, cond (decide (y1.1 ≥ (0 : Int))) (decide (y1.1 < x.1)) false, ())) fun y2 => out1 y2
      (fun z3 =>
        g (x.1, z3.1, x.2.2.1, x.2.2.2.1, IntKind.i64.wrap (x.2.2.2.2.1 + (1 : Int)), ())))
    (some (.inl (x.2.1, ())))
noncomputable def k2l2 : LCtr := ⟨[1, 5, 23, 24, 25], (.cons (.val (.int .i64)) (.cons (.own (.int .i64)) (.cons (.val (.lst t_easementref08_Pair)) (.cons (.val (.int .i64)) (.cons (.val (.int .i64)) .nil))))), [some 0], [0, 1, 5], [⟨(.exit 0), [5], (.cons (.own (.int .i64)) .nil), [some 0]⟩], fun _ => [], lim table_Group_16_l10_step⟩
noncomputable def table_Group_16_j113_v (x : ((List (List V_easementref08_Pair)) × Int × Int × Bool × Unit)) : Option (((List (List V_easementref08_Pair)) × Unit) ⊕ Empty) :=
  cond (x.2.2.2.1)
    (ck (decide (0 ≤ (0 : Int)) && decide ((0 : Int) ≤ x.2.2.1) && decide (x.2.2.1 * ((19 : Nat) : Int) ≤ 35184372088832)) <|
    ck (inB x.2.1 (x.1.length)) <|
    some (.inl (x.1.set x.2.1.toNat (List.replicate (0 : Int).toNat (((0 : Int), (0 : Int), ()) : V_easementref08_Pair)), ())))
    (some (.inl (x.1, ())))
noncomputable def k2l3 : LCtr := ⟨[9, 10, 11, 56], (.cons (.arr (.own t_easementref08_Pair)) (.cons (.val (.int .i64)) (.cons (.val (.int .i64)) (.cons (.val .bool) .nil)))), [], [9, 48, 49, 50], [⟨.normal, [9], (.cons (.arr (.own t_easementref08_Pair)) .nil), [some 0]⟩], fun _ => [], table_Group_16_j113_v⟩
noncomputable def table_Group_16_l26_step (g : T3 → Option T4) (x : T3) : Option T4 :=
  cond (decide (x.2.2.2.1 < x.2.2.1))
    (ck (inB x.2.2.2.1 (x.2.1.length)) <|
    let v1 := x.2.1.getD x.2.2.2.1.toNat (Ty.dflt (.int .i64))
    Option.bind (table_Group_16_j113_v (x.1, x.2.2.2.1, v1, decide (v1 > (0 : Int)), ())) fun y6 => out1 y6
      (fun z7 =>
        g (z7.1, x.2.1, x.2.2.1, IntKind.i64.wrap (x.2.2.2.1 + (1 : Int)), ())))
    (some (.inl (x.1, x.2.1, ())))
noncomputable def k2l4 : LCtr := ⟨[9, 48, 49, 50], (.cons (.arr (.own t_easementref08_Pair)) (.cons (.own (.int .i64)) (.cons (.val (.int .i64)) (.cons (.val (.int .i64)) .nil)))), [some 0, some 1], [0, 1, 9], [⟨(.exit 2), [9, 48], (.cons (.arr (.own t_easementref08_Pair)) (.cons (.own (.int .i64)) .nil)), [some 0, some 1]⟩], fun _ => [], lim table_Group_16_l26_step⟩
noncomputable def table_Group_16_j157_v (x : (V_easementref08_Pair × (List (List V_easementref08_Pair)) × Int × Bool × Unit)) : Option ((V_easementref08_Pair × (List (List V_easementref08_Pair)) × Unit) ⊕ Empty) :=
  cond (x.2.2.2.1)
    (ck (inB x.2.2.1 (x.2.1.length)) <|
    let v1 := (x.2.1.getD x.2.2.1.toNat ([] : List V_easementref08_Pair)) ++ [x.1]
    ck (roomB v1.length 19) <|
    ck (inB x.2.2.1 (x.2.1.length)) <|
    ck (Nat.beq x.2.2.1.toNat x.2.2.1.toNat) <|
    some (.inl (x.1, x.2.1.set x.2.2.1.toNat v1, ())))
    (some (.inl (x.1, x.2.1, ())))
noncomputable def k2l5 : LCtr := ⟨[13, 9, 14, 78], (.cons (.ptr (.cons (.val (.int .i64)) (.cons (.val (.int .i64)) .nil))) (.cons (.arr (.own t_easementref08_Pair)) (.cons (.val (.int .i64)) (.cons (.val .bool) .nil)))), [], [1, 9, 63, 64, 65], [⟨.normal, [13, 9], (.cons (.ptr (.cons (.val (.int .i64)) (.cons (.val (.int .i64)) .nil))) (.cons (.arr (.own t_easementref08_Pair)) .nil)), [some 0, some 1]⟩], fun _ => [], table_Group_16_j157_v⟩
noncomputable def table_Group_16_l38_step (g : T7 → Option (((List (List V_easementref08_Pair)) × Unit) ⊕ Empty)) (x : T7) : Option (((List (List V_easementref08_Pair)) × Unit) ⊕ Empty) :=
  cond (decide (x.2.2.2.2.1 < x.2.2.2.1))
    (ck (inB x.2.2.2.2.1 (x.2.2.1.length)) <|
    let v1 := rdL t_easementref08_Pair x.2.2.1 x.2.2.2.2.1
    Option.bind (ref08_Pair_Key (v1, ())) fun y10 =>
    Option.bind (table_Group_16_j157_v (v1, x.2.1, y10.1, cond (decide (y10.1 ≥ (0 : Int))) (decide (y10.1 < x.1)) false, ())) fun y11 => out1 y11
      (fun z12 =>
        g (x.1, z12.2.1, x.2.2.1, x.2.2.2.1, IntKind.i64.wrap (x.2.2.2.2.1 + (1 : Int)), ())))
    (some (.inl (x.2.1, ())))
noncomputable def k2l6 : LCtr := ⟨[1, 9, 63, 64, 65], (.cons (.val (.int .i64)) (.cons (.arr (.own t_easementref08_Pair)) (.cons (.val (.lst t_easementref08_Pair)) (.cons (.val (.int .i64)) (.cons (.val (.int .i64)) .nil))))), [some 0], [9], [⟨(.exit 4), [9], (.cons (.arr (.own t_easementref08_Pair)) .nil), [some 0]⟩], fun _ => [], lim table_Group_16_l38_step⟩
theorem k2s : LsOK Try.prog Try.f7.ntmps (codeOf Try.f7) [(38, k2l6), (3014813, k2l5), (26, k2l4), (2097265, k2l3), (10, k2l2), (1179725, k2l1)] := loop_E 38 k2l6 k2 (join_E 3014813 k2l5 k2 (loop_E 26 k2l4 k2 (join_E 2097265 k2l3 k2 (loop_E 10 k2l2 k2 (join_E 1179725 k2l1 k2 trivial (by kernel_rfl) (fun x => by kernel_rfl)) (by kernel_rfl) rfl (fun g x => by kernel_rfl)) (by kernel_rfl) (fun x => by kernel_rfl)) (by kernel_rfl) rfl (fun g x => by kernel_rfl)) (by kernel_rfl) (fun x => by kernel_rfl)) (by kernel_rfl) rfl (fun g x => by kernel_rfl)
noncomputable def table_Group_16 (x : ((List V_easementref08_Pair) × Int × Unit)) : Option ((List (List V_easementref08_Pair)) × Unit) :=
  cond (cond (decide (x.2.1 < (0 : Int))) true (decide (x.2.1 > (1048576 : Int))))
    (some (([] : List (List V_easementref08_Pair)), ()))
    (ck (decide (0 ≤ x.2.1) && decide (x.2.1 ≤ x.2.1) && decide (x.2.1 * ((10 : Nat) : Int) ≤ 35184372088832)) <|
    Option.bind (lim table_Group_16_l10_step (x.2.1, List.replicate x.2.1.toNat ((0 : Int) : Int), x.1, (x.1.length : Int), (0 : Int), ())) fun y4 => out1 y4
      (fun z5 =>
        ck (decide (0 ≤ x.2.1) && decide (x.2.1 ≤ x.2.1) && decide (x.2.1 * ((26 : Nat) : Int) ≤ 35184372088832)) <|
        Option.bind (lim table_Group_16_l26_step (List.replicate x.2.1.toNat ([] : List V_easementref08_Pair), z5.1, (z5.1.length : Int), (0 : Int), ())) fun y8 => out1 y8
          (fun z9 =>
            Option.bind (lim table_Group_16_l38_step (x.2.1, z9.1, x.1, (x.1.length : Int), (0 : Int), ())) fun y13 => out1 y13
              (fun z14 =>
                some z14))))
noncomputable def table_Group_16_c : Ctr := ⟨(.cons (.lst t_easementref08_Pair) (.cons (.int .i64) .nil)), (.cons (.lst (.lst t_easementref08_Pair)) .nil), table_Group_16, none⟩
theorem table_Group_16_ok : CtrOK Try.prog 7 table_Group_16_c := fun_E k2 Try.func7 k2s (by kernel_rfl) (fun x => by kernel_rfl)
/-! ### easement/easementref08.Same: function 8 -/
noncomputable def ref08_Same_l8_step (g : T8 → Option ((Bool × Unit) ⊕ (Unit ⊕ Empty))) (x : T8) : Option ((Bool × Unit) ⊕ (Unit ⊕ Empty)) :=
  cond (decide (x.2.2.1 < (x.1.length : Int)))
    (ck (inB x.2.2.1 (x.1.length)) <|
    ck (inB x.2.2.1 (x.2.1.length)) <|
    let v1 := rdL t_easementref08_Pair x.1 x.2.2.1
    let v2 := rdL t_easementref08_Pair x.2.1 x.2.2.1
    cond (!((v1.1 == v2.1) && ((v1.2.1 == v2.2.1) && true)))
      (some (.inl (false, ())))
      (g (x.1, x.2.1, IntKind.i64.wrap (x.2.2.1 + (1 : Int)), ())))
    (some (.inr (.inl ())))
noncomputable def k3l1 : LCtr := ⟨[0, 1, 5], (.cons (.val (.lst t_easementref08_Pair)) (.cons (.val (.lst t_easementref08_Pair)) (.cons (.val (.int .i64)) .nil))), [], [], [⟨.ret, [4], (.cons (.val .bool) .nil), []⟩, ⟨(.exit 0), [], .nil, []⟩], fun _ => [], lim ref08_Same_l8_step⟩
theorem k3s : LsOK Try.prog Try.f8.ntmps (codeOf Try.f8) [(8, k3l1)] := loop_E 8 k3l1 k0 trivial (by kernel_rfl) rfl (fun g x => by kernel_rfl)
noncomputable def ref08_Same (x : ((List V_easementref08_Pair) × (List V_easementref08_Pair) × Unit)) : Option (Bool × Unit) :=
  cond ((x.1.length : Int) != (x.2.1.length : Int))
    (some (false, ()))
    (Option.bind (lim ref08_Same_l8_step (x.1, x.2.1, (0 : Int), ())) fun y1 => out2 y1
      (fun z2 =>
        some z2)
      (fun z3 =>
        some (true, ())))
noncomputable def ref08_Same_c : Ctr := ⟨(.cons (.lst t_easementref08_Pair) (.cons (.lst t_easementref08_Pair) .nil)), (.cons .bool .nil), ref08_Same, none⟩
theorem ref08_Same_ok : CtrOK Try.prog 8 ref08_Same_c := fun_E k0 Try.func8 k3s (by kernel_rfl) (fun x => by kernel_rfl)
/-! ### easement/table.Firsts[string]: function 23 -/
noncomputable def table_Firsts_79_j43_v (x : ((List ByteArray) × ByteArray × Bool × Unit)) : Option (((List ByteArray) × Unit) ⊕ Empty) :=
  cond (x.2.2.1)
    (ck (roomB (x.1 ++ [x.2.1]).length 18) <|
    some (.inl (x.1 ++ [x.2.1], ())))
    (some (.inl (x.1, ())))
noncomputable def k4l1 : LCtr := ⟨[3, 6, 21], (.cons (.own .str) (.cons (.val .str) (.cons (.val .bool) .nil))), [], [4, 8, 9, 10], [⟨.normal, [3], (.cons (.own .str) .nil), [none]⟩], fun _ => [], table_Firsts_79_j43_v⟩
noncomputable def table_Firsts_79_l8_step (g : T10 → Option T11) (x : T10) : Option T11 :=
  cond (decide (x.2.2.2.2.1 < x.2.2.2.1))
    (ck (inB x.2.2.2.2.1 (x.2.2.1.length)) <|
    let v1 := rdL .str x.2.2.1 x.2.2.2.2.1
    let v2 := mUpd (eqT .str) v1 (IntKind.i64.wrap ((mGet (eqT .str) (0 : Int) v1 x.2.1.1) + (1 : Int))) x.2.1.1 x.2.1.2
    Option.bind (table_Firsts_79_j43_v (x.1, v1, (mGet (eqT .str) (0 : Int) v1 v2) == (1 : Int), ())) fun y1 => out1 y1
      (fun z2 =>
        g (z2.1, (v2, mClk (eqT .str) v1 x.2.1.1 x.2.1.2), x.2.2.1, x.2.2.2.1, IntKind.i64.wrap (x.2.2.2.2.1 + (1 : Int)), ())))
    (some (.inl (x.1, x.2.1, ())))
noncomputable def k4l2 : LCtr := ⟨[3, 4, 8, 9, 10], (.cons (.own .str) (.cons (.mp .str (.int .i64)) (.cons (.val (.lst .str)) (.cons (.val (.int .i64)) (.cons (.val (.int .i64)) .nil))))), [none, some 1], [], [⟨(.exit 0), [3, 4], (.cons (.own .str) (.cons (.mp .str (.int .i64)) .nil)), [none, some 1]⟩], fun _ => [], lim table_Firsts_79_l8_step⟩
theorem k4s : LsOK Try.prog Try.f23.ntmps (codeOf Try.f23) [(8, k4l2), (1048619, k4l1)] := loop_E 8 k4l2 k0 (join_E 1048619 k4l1 k0 trivial (by kernel_rfl) (fun x => by kernel_rfl)) (by kernel_rfl) rfl (fun g x => by kernel_rfl)
noncomputable def table_Firsts_79 (x : ((List ByteArray) × Unit)) : Option ((List ByteArray) × Unit) :=
  Option.bind (lim table_Firsts_79_l8_step (([] : List ByteArray), (([] : List (ByteArray × Int × Nat)), 0), x.1, (x.1.length : Int), (0 : Int), ())) fun y3 => out1 y3
    (fun z4 =>
      some (z4.1, ()))
noncomputable def table_Firsts_79_c : Ctr := ⟨(.cons (.lst .str) .nil), (.cons (.lst .str) .nil), table_Firsts_79, none⟩
theorem table_Firsts_79_ok : CtrOK Try.prog 23 table_Firsts_79_c := fun_E k0 Try.func23 k4s (by kernel_rfl) (fun x => by kernel_rfl)
/-! ### easement/easementlaw08.awake: function 6 -/
noncomputable def k5 : FE Try.prog := ⟨[(7, table_Group_16_c), (8, ref08_Same_c), (23, table_Firsts_79_c)], [], [], [], ⟨table_Group_16_ok, ref08_Same_ok, table_Firsts_79_ok, trivial⟩, trivial, trivial⟩
noncomputable def law08_awake (x : Unit) : Option (Bool × Unit) :=
  Option.bind (table_Group_16 ([((1 : Int), (5 : Int), ()), ((0 : Int), (6 : Int), ()), ((1 : Int), (7 : Int), ())], (2 : Int), ())) fun y1 =>
  let v1 := (y1.1.length : Int) == (2 : Int)
  ck ((inB (1 : Int) (y1.1.length)) || !v1) <|
  cond (v1)
    (Option.bind (ref08_Same (rdL (.lst t_easementref08_Pair) y1.1 (1 : Int), [((1 : Int), (5 : Int), ()), ((1 : Int), (7 : Int), ())], ())) fun y2 =>
    cond (y2.1)
      (Option.bind (table_Firsts_79 ([(⟨#[97]⟩ : ByteArray), (⟨#[98]⟩ : ByteArray), (⟨#[97]⟩ : ByteArray)], ())) fun y3 =>
      some ((y3.1.length : Int) == (2 : Int), ()))
      (some (false, ())))
    (some (false, ()))
noncomputable def law08_awake_c : Ctr := ⟨.nil, (.cons .bool .nil), law08_awake, none⟩
theorem law08_awake_ok : CtrOK Try.prog 6 law08_awake_c := fun_E (ls := []) k5 Try.func6 trivial (by kernel_rfl) (fun x => by kernel_rfl)
/-! ### easement/table.Firsts[easement/easementref08.Pair]: function 9 -/
noncomputable def table_Firsts_18_j47_v (x : (V_easementref08_Pair × (List V_easementref08_Pair) × Bool × Unit)) : Option (((List V_easementref08_Pair) × V_easementref08_Pair × Unit) ⊕ Empty) :=
  cond (x.2.2.1)
    (ck (roomB (x.2.1 ++ [x.1]).length 19) <|
    some (.inl (x.2.1 ++ [x.1], x.1, ())))
    (some (.inl (x.2.1, x.1, ())))
noncomputable def k6l1 : LCtr := ⟨[6, 3, 23], (.cons (.ptr (.cons (.val (.int .i64)) (.cons (.val (.int .i64)) .nil))) (.cons (.own t_easementref08_Pair) (.cons (.val .bool) .nil))), [], [4, 8, 9, 10], [⟨.normal, [3, 6], (.cons (.own t_easementref08_Pair) (.cons (.ptr (.cons (.val (.int .i64)) (.cons (.val (.int .i64)) .nil))) .nil)), [none, some 0]⟩], fun _ => [], table_Firsts_18_j47_v⟩
noncomputable def table_Firsts_18_l8_step (g : T14 → Option T15) (x : T14) : Option T15 :=
  cond (decide (x.2.2.2.2.1 < x.2.2.2.1))
    (ck (inB x.2.2.2.2.1 (x.2.2.1.length)) <|
    let v1 := rdL t_easementref08_Pair x.2.2.1 x.2.2.2.2.1
    let v2 := mBorn (eqT t_easementref08_Pair) (0 : Int) v1 x.2.1.1 x.2.1.2
    let v3 := mEnt (eqT t_easementref08_Pair) (0 : Int) v1 x.2.1.1 x.2.1.2
    ck (mHas v2 v3) <|
    let v4 := mPut v2 (IntKind.i64.wrap ((mGet (eqT t_easementref08_Pair) (0 : Int) v1 x.2.1.1) + (1 : Int))) v3
    Option.bind (table_Firsts_18_j47_v (v1, x.1, (mGet (eqT t_easementref08_Pair) (0 : Int) v1 v4) == (1 : Int), ())) fun y1 => out1 y1
      (fun z2 =>
        g (z2.1, (v4, mClk (eqT t_easementref08_Pair) v1 x.2.1.1 x.2.1.2), x.2.2.1, x.2.2.2.1, IntKind.i64.wrap (x.2.2.2.2.1 + (1 : Int)), ())))
    (some (.inl (x.1, x.2.1, ())))
noncomputable def k6l2 : LCtr := ⟨[3, 4, 8, 9, 10], (.cons (.own t_easementref08_Pair) (.cons (.mp t_easementref08_Pair (.int .i64)) (.cons (.val (.lst t_easementref08_Pair)) (.cons (.val (.int .i64)) (.cons (.val (.int .i64)) .nil))))), [none, some 1], [], [⟨(.exit 0), [3, 4], (.cons (.own t_easementref08_Pair) (.cons (.mp t_easementref08_Pair (.int .i64)) .nil)), [none, some 1]⟩], fun _ => [], lim table_Firsts_18_l8_step⟩
theorem k6s : LsOK Try.prog Try.f9.ntmps (codeOf Try.f9) [(8, k6l2), (1048623, k6l1)] := loop_E 8 k6l2 k0 (join_E 1048623 k6l1 k0 trivial (by kernel_rfl) (fun x => by kernel_rfl)) (by kernel_rfl) rfl (fun g x => by kernel_rfl)
noncomputable def table_Firsts_18 (x : ((List V_easementref08_Pair) × Unit)) : Option ((List V_easementref08_Pair) × Unit) :=
  Option.bind (lim table_Firsts_18_l8_step (([] : List V_easementref08_Pair), (([] : List (V_easementref08_Pair × Int × Nat)), 0), x.1, (x.1.length : Int), (0 : Int), ())) fun y3 => out1 y3
    (fun z4 =>
      some (z4.1, ()))
noncomputable def table_Firsts_18_c : Ctr := ⟨(.cons (.lst t_easementref08_Pair) .nil), (.cons (.lst t_easementref08_Pair) .nil), table_Firsts_18, none⟩
theorem table_Firsts_18_ok : CtrOK Try.prog 9 table_Firsts_18_c := fun_E k0 Try.func9 k6s (by kernel_rfl) (fun x => by kernel_rfl)
/-! ### easement/easementref08.Firsts: function 10 -/
noncomputable def ref08_Firsts_l14_step (g : ((List V_easementref08_Pair) × Int × Bool × Int × Unit) → Option ((Bool × Unit) ⊕ Empty)) (x : ((List V_easementref08_Pair) × Int × Bool × Int × Unit)) : Option ((Bool × Unit) ⊕ Empty) :=
  cond (decide (x.2.2.2.1 < x.2.1))
    (ck ((inB x.2.2.2.1 (x.1.length)) || !(!x.2.2.1)) <|
    ck ((inB x.2.1 (x.1.length)) || !(!x.2.2.1)) <|
    let v1 := rdL t_easementref08_Pair x.1 x.2.2.2.1
    let v2 := rdL t_easementref08_Pair x.1 x.2.1
    g (x.1, x.2.1, cond x.2.2.1 true ((v1.1 == v2.1) && ((v1.2.1 == v2.2.1) && true)), IntKind.i64.wrap (x.2.2.2.1 + (1 : Int)), ()))
    (some (.inl (x.2.2.1, ())))
noncomputable def k7l1 : LCtr := ⟨[0, 4, 5, 6], (.cons (.val (.lst t_easementref08_Pair)) (.cons (.val (.int .i64)) (.cons (.val .bool) (.cons (.val (.int .i64)) .nil)))), [], [0, 3, 4], [⟨(.exit 2), [5], (.cons (.val .bool) .nil), []⟩], fun _ => [], lim ref08_Firsts_l14_step⟩
noncomputable def ref08_Firsts_j65_v (x : T16) : Option (((List V_easementref08_Pair) × Unit) ⊕ Empty) :=
  cond (x.2.2.2.1)
    (ck (inB x.2.2.1 (x.1.length)) <|
    let v1 := x.2.1 ++ [rdL t_easementref08_Pair x.1 x.2.2.1]
    ck (roomB v1.length 19) <|
    some (.inl (v1, ())))
    (some (.inl (x.2.1, ())))
noncomputable def k7l2 : LCtr := ⟨[0, 3, 4, 32], q16, [], [0, 4], [⟨.normal, [3], (.cons (.own t_easementref08_Pair) .nil), [none]⟩], fun _ => [], ref08_Firsts_j65_v⟩
noncomputable def ref08_Firsts_l6_step (g : T8 → Option (((List V_easementref08_Pair) × Unit) ⊕ Empty)) (x : T8) : Option (((List V_easementref08_Pair) × Unit) ⊕ Empty) :=
  cond (decide (x.2.2.1 < (x.1.length : Int)))
    (Option.bind (lim ref08_Firsts_l14_step (x.1, x.2.2.1, false, (0 : Int), ())) fun y1 => out1 y1
      (fun z2 =>
        Option.bind (ref08_Firsts_j65_v (x.1, x.2.1, x.2.2.1, !z2.1, ())) fun y3 => out1 y3
          (fun z4 =>
            g (x.1, z4.1, IntKind.i64.wrap (x.2.2.1 + (1 : Int)), ()))))
    (some (.inl (x.2.1, ())))
noncomputable def k7l3 : LCtr := ⟨[0, 3, 4], (.cons (.val (.lst t_easementref08_Pair)) (.cons (.own t_easementref08_Pair) (.cons (.val (.int .i64)) .nil))), [none], [], [⟨(.exit 0), [3], (.cons (.own t_easementref08_Pair) .nil), [none]⟩], fun _ => [], lim ref08_Firsts_l6_step⟩
theorem k7s : LsOK Try.prog Try.f10.ntmps (codeOf Try.f10) [(6, k7l3), (1441857, k7l2), (14, k7l1)] := loop_E 6 k7l3 k0 (join_E 1441857 k7l2 k0 (loop_E 14 k7l1 k0 trivial (by kernel_rfl) rfl (fun g x => by kernel_rfl)) (by kernel_rfl) (fun x => by kernel_rfl)) (by kernel_rfl) rfl (fun g x => by kernel_rfl)
noncomputable def ref08_Firsts (x : ((List V_easementref08_Pair) × Unit)) : Option ((List V_easementref08_Pair) × Unit) :=
  Option.bind (lim ref08_Firsts_l6_step (x.1, ([] : List V_easementref08_Pair), (0 : Int), ())) fun y5 => out1 y5
    (fun z6 =>
      some z6)
noncomputable def ref08_Firsts_c : Ctr := ⟨(.cons (.lst t_easementref08_Pair) .nil), (.cons (.lst t_easementref08_Pair) .nil), ref08_Firsts, none⟩
theorem ref08_Firsts_ok : CtrOK Try.prog 10 ref08_Firsts_c := fun_E k0 Try.func10 k7s (by kernel_rfl) (fun x => by kernel_rfl)
/-! ### easement/easementref08.Group: function 11 -/
noncomputable def ref08_Group_j41_v (x : T16) : Option (((List V_easementref08_Pair) × Unit) ⊕ Empty) :=
  cond (x.2.2.2.1)
    (ck (inB x.2.2.1 (x.1.length)) <|
    let v1 := x.2.1 ++ [rdL t_easementref08_Pair x.1 x.2.2.1]
    ck (roomB v1.length 19) <|
    some (.inl (v1, ())))
    (some (.inl (x.2.1, ())))
noncomputable def k8l1 : LCtr := ⟨[0, 5, 6, 20], q16, [], [0, 1, 6], [⟨.normal, [5], (.cons (.own t_easementref08_Pair) .nil), [none]⟩], fun _ => [], ref08_Group_j41_v⟩
noncomputable def ref08_Group_l6_step (g : T17 → Option (((List V_easementref08_Pair) × Unit) ⊕ Empty)) (x : T17) : Option (((List V_easementref08_Pair) × Unit) ⊕ Empty) :=
  cond (decide (x.2.2.2.1 < (x.1.length : Int)))
    (ck (inB x.2.2.2.1 (x.1.length)) <|
    Option.bind (ref08_Group_j41_v (x.1, x.2.2.1, x.2.2.2.1, (rdL t_easementref08_Pair x.1 x.2.2.2.1).1 == x.2.1, ())) fun y1 => out1 y1
      (fun z2 =>
        g (x.1, x.2.1, z2.1, IntKind.i64.wrap (x.2.2.2.1 + (1 : Int)), ())))
    (some (.inl (x.2.2.1, ())))
noncomputable def k8l2 : LCtr := ⟨[0, 1, 5, 6], (.cons (.val (.lst t_easementref08_Pair)) (.cons (.val (.int .i64)) (.cons (.own t_easementref08_Pair) (.cons (.val (.int .i64)) .nil)))), [none], [], [⟨(.exit 0), [5], (.cons (.own t_easementref08_Pair) .nil), [none]⟩], fun _ => [], lim ref08_Group_l6_step⟩
theorem k8s : LsOK Try.prog Try.f11.ntmps (codeOf Try.f11) [(6, k8l2), (786473, k8l1)] := loop_E 6 k8l2 k0 (join_E 786473 k8l1 k0 trivial (by kernel_rfl) (fun x => by kernel_rfl)) (by kernel_rfl) rfl (fun g x => by kernel_rfl)
noncomputable def ref08_Group (x : ((List V_easementref08_Pair) × Int × Unit)) : Option ((List V_easementref08_Pair) × Unit) :=
  Option.bind (lim ref08_Group_l6_step (x.1, x.2.1, ([] : List V_easementref08_Pair), (0 : Int), ())) fun y3 => out1 y3
    (fun z4 =>
      some z4)
noncomputable def ref08_Group_c : Ctr := ⟨(.cons (.lst t_easementref08_Pair) (.cons (.int .i64) .nil)), (.cons (.lst t_easementref08_Pair) .nil), ref08_Group, none⟩
theorem ref08_Group_ok : CtrOK Try.prog 11 ref08_Group_c := fun_E k0 Try.func11 k8s (by kernel_rfl) (fun x => by kernel_rfl)
/-! ### easement/easementlaw08.TableGroups: function 3 -/
noncomputable def k9 : FE Try.prog := ⟨[(6, law08_awake_c), (7, table_Group_16_c), (9, table_Firsts_18_c), (10, ref08_Firsts_c), (8, ref08_Same_c), (11, ref08_Group_c)], [], [], [], ⟨law08_awake_ok, table_Group_16_ok, table_Firsts_18_ok, ref08_Firsts_ok, ref08_Same_ok, ref08_Group_ok, trivial⟩, trivial, trivial⟩
noncomputable def law08_TableGroups_l22_step (g : T18 → Option ((Bool × Unit) ⊕ (Unit ⊕ Empty))) (x : T18) : Option ((Bool × Unit) ⊕ (Unit ⊕ Empty)) :=
  cond (decide (x.2.2.2.1 < x.2.1))
    (ck (inB x.2.2.2.1 (x.2.2.1.length)) <|
    Option.bind (ref08_Group (x.1, x.2.2.2)) fun y7 =>
    Option.bind (ref08_Same (rdL (.lst t_easementref08_Pair) x.2.2.1 x.2.2.2.1, y7)) fun y8 =>
    cond (!y8.1)
      (some (.inl (false, ())))
      (g (x.1, x.2.1, x.2.2.1, IntKind.i64.wrap (x.2.2.2.1 + (1 : Int)), ())))
    (some (.inr (.inl ())))
noncomputable def k9l1 : LCtr := ⟨[0, 1, 5, 6], (.cons (.val (.lst t_easementref08_Pair)) (.cons (.val (.int .i64)) (.cons (.val (.lst (.lst t_easementref08_Pair))) (.cons (.val (.int .i64)) .nil)))), [], [], [⟨.ret, [4], (.cons (.val .bool) .nil), []⟩, ⟨(.exit 0), [], .nil, []⟩], fun _ => [], lim law08_TableGroups_l22_step⟩
theorem k9s : LsOK Try.prog Try.f3.ntmps (codeOf Try.f3) [(22, k9l1)] := loop_E 22 k9l1 k9 trivial (by kernel_rfl) rfl (fun g x => by kernel_rfl)
noncomputable def law08_TableGroups (x : ((List V_easementref08_Pair) × Int × Unit)) : Option (Bool × Unit) :=
  cond (cond (decide ((x.1.length : Int) > (60 : Int))) true (cond (decide (x.2.1 > (100 : Int))) (decide (x.2.1 ≤ (1048576 : Int))) false))
    (Option.bind (law08_awake ()) fun y1 =>
    some y1)
    (Option.bind (table_Group_16 x) fun y2 =>
    Option.bind (table_Firsts_18 (x.1, ())) fun y3 =>
    Option.bind (ref08_Firsts (x.1, ())) fun y4 =>
    Option.bind (ref08_Same (y3.1, y4)) fun y5 =>
    cond (!y5.1)
      (some (false, ()))
      (cond (cond (decide (x.2.1 < (0 : Int))) true (decide (x.2.1 > (1048576 : Int))))
        (cond ((y2.1.length : Int) == (0 : Int))
          (Option.bind (law08_awake ()) fun y6 =>
          some y6)
          (some (false, ())))
        (cond ((y2.1.length : Int) != x.2.1)
          (some (false, ()))
          (Option.bind (lim law08_TableGroups_l22_step (x.1, x.2.1, y2.1, (0 : Int), ())) fun y9 => out2 y9
            (fun z10 =>
              some z10)
            (fun z11 =>
              Option.bind (law08_awake ()) fun y12 =>
              some y12)))))
noncomputable def law08_TableGroups_c : Ctr := ⟨(.cons (.lst t_easementref08_Pair) (.cons (.int .i64) .nil)), (.cons .bool .nil), law08_TableGroups, none⟩
theorem law08_TableGroups_ok : CtrOK Try.prog 3 law08_TableGroups_c := fun_E k9 Try.func3 k9s (by kernel_rfl) (fun x => by kernel_rfl)
/-! ### (*easement/table.Table[string]).Get: function 12 -/
noncomputable def table_Table_30 (x : ((Option ((List ByteArray) × (List Bool) × Int × Unit)) × Int × Unit)) : Option (ByteArray × Bool × Unit) :=
  let v1 := cond (x.1.isNone) true (decide (x.2.1 < (0 : Int)))
  ck ((x.1.isSome) || !(!v1)) <|
  cond (cond v1 true (decide (x.2.1 ≥ ((x.1.getD (Ty.dflt (.cons (.lst .str) (.cons (.lst .bool) (.cons (.int .i64) .nil))))).1.length : Int))))
    (some ((⟨#[]⟩ : ByteArray), false, ()))
    (ck (x.1.isSome) <|
    let v2 := (x.1.getD (Ty.dflt (.cons (.lst .str) (.cons (.lst .bool) (.cons (.int .i64) .nil))))).1
    ck (inB x.2.1 (v2.length)) <|
    ck (x.1.isSome) <|
    let v3 := (x.1.getD (Ty.dflt (.cons (.lst .str) (.cons (.lst .bool) (.cons (.int .i64) .nil))))).2.1
    ck (inB x.2.1 (v3.length)) <|
    some (rdL .str v2 x.2.1, rdL .bool v3 x.2.1, ()))
noncomputable def table_Table_30_c : Ctr := ⟨(.cons (.ptr (.cons (.lst .str) (.cons (.lst .bool) (.cons (.int .i64) .nil)))) (.cons (.int .i64) .nil)), (.cons .str (.cons .bool .nil)), table_Table_30, none⟩
theorem table_Table_30_ok : CtrOK Try.prog 12 table_Table_30_c := fun_E (ls := []) k0 Try.func12 trivial (by kernel_rfl) (fun x => by kernel_rfl)
/-! ### (*easement/table.Table[string]).Set: function 13, at objects -/
noncomputable def table_Table_31_p0 (x : (Unit × Int × ByteArray × Unit)) : Option ((Bool × Unit) ⊕ Empty) :=
  some (.inl (false, ()))
noncomputable def k11L : LCtr := ⟨[0, 1, 2], (.cons (.cst true) (.cons (.val (.int .i64)) (.cons (.val .str) .nil))), [], [], [⟨.ret, [6], (.cons (.val .bool) .nil), []⟩], fun _ => [], table_Table_31_p0⟩
noncomputable def table_Table_31_p0_c : PI := mkPI Try.f13 k11L
theorem table_Table_31_p0_ok : PIOK Try.prog 13 table_Table_31_p0_c := proc_E (ls := []) k0 Try.func13 trivial (by kernel_rfl) (fun x => by kernel_rfl)
/-! ### (*easement/table.Table[string]).Or: function 14 -/
noncomputable def k12 : FE Try.prog := ⟨[(12, table_Table_30_c)], [], [], [], ⟨table_Table_30_ok, trivial⟩, trivial, trivial⟩
noncomputable def table_Table_32 (x : ((Option ((List ByteArray) × (List Bool) × Int × Unit)) × Int × ByteArray × Unit)) : Option (ByteArray × Unit) :=
  Option.bind (table_Table_30 (x.1, x.2.1, ())) fun y1 =>
  cond (y1.2.1)
    (some (y1.1, ()))
    (some x.2.2)
noncomputable def table_Table_32_c : Ctr := ⟨(.cons (.ptr (.cons (.lst .str) (.cons (.lst .bool) (.cons (.int .i64) .nil)))) (.cons (.int .i64) (.cons .str .nil))), (.cons .str .nil), table_Table_32, none⟩
theorem table_Table_32_ok : CtrOK Try.prog 14 table_Table_32_c := fun_E (ls := []) k12 Try.func14 trivial (by kernel_rfl) (fun x => by kernel_rfl)
/-! ### (*easement/table.Table[string]).Len: function 15 -/
noncomputable def table_Table_33 (x : ((Option ((List ByteArray) × (List Bool) × Int × Unit)) × Unit)) : Option (Int × Unit) :=
  cond (x.1.isNone)
    (some ((0 : Int), ()))
    (ck (x.1.isSome) <|
    some (x.1.getD (Ty.dflt (.cons (.lst .str) (.cons (.lst .bool) (.cons (.int .i64) .nil))))).2.2)
noncomputable def table_Table_33_c : Ctr := ⟨(.cons (.ptr (.cons (.lst .str) (.cons (.lst .bool) (.cons (.int .i64) .nil)))) .nil), (.cons (.int .i64) .nil), table_Table_33, none⟩
theorem table_Table_33_ok : CtrOK Try.prog 15 table_Table_33_c := fun_E (ls := []) k0 Try.func15 trivial (by kernel_rfl) (fun x => by kernel_rfl)
/-! ### (*easement/table.Table[string]).Set: function 13, at objects -/
noncomputable def table_Table_31_p1_l6_step (g : T22 → Option T23) (x : T22) : Option T23 :=
  cond (decide ((x.1.1.length : Int) ≤ x.2.1))
    (let v1 := x.1.1 ++ [(⟨#[]⟩ : ByteArray)]
    ck (roomB v1.length 18) <|
    ck (roomB (x.1.2.1 ++ [false]).length 3) <|
    g ((v1, x.1.2.1 ++ [false], x.1.2.2), x.2))
    (some (.inl (x.1, ())))
noncomputable def k14l1 : LCtr := ⟨[0, 1], (.cons (.ptr q21) (.cons (.val (.int .i64)) .nil)), [some 0, none, none], [0, 1, 2], [⟨(.exit 0), [0], (.cons (.ptr q21) .nil), [some 0, none, none]⟩], fun _ => [], lim table_Table_31_p1_l6_step⟩
noncomputable def table_Table_31_p1_j103_v (x : (((List ByteArray) × (List Bool) × Int × Unit) × Bool × Unit)) : Option T23 :=
  cond (x.2.1)
    (some (.inl ((x.1.1, x.1.2.1, IntKind.i64.wrap (x.1.2.2.1 + (1 : Int)), ()), ())))
    (some (.inl (x.1, ())))
noncomputable def k14l2 : LCtr := ⟨[0, 51], (.cons (.ptr q21) (.cons (.val .bool) .nil)), [], [0, 1, 2], [⟨.normal, [0], (.cons (.ptr q21) .nil), [some 0, some 1, some 2]⟩], fun _ => [], table_Table_31_p1_j103_v⟩
theorem k14s : LsOK Try.prog Try.f13.ntmps (codeOf Try.f13) [(1048679, k14l2), (6, k14l1)] := join_E 1048679 k14l2 k0 (loop_E 6 k14l1 k0 trivial (by kernel_rfl) rfl (fun g x => by kernel_rfl)) (by kernel_rfl) (fun x => by kernel_rfl)
noncomputable def table_Table_31_p1 (x : (((List ByteArray) × (List Bool) × Int × Unit) × Int × ByteArray × Unit)) : Option ((Bool × ((List ByteArray) × (List Bool) × Int × Unit) × Unit) ⊕ Empty) :=
  cond (cond (decide (x.2.1 < (0 : Int))) true (decide (x.2.1 ≥ (1048576 : Int))))
    (some (.inl (false, x.1, ())))
    (Option.bind (lim table_Table_31_p1_l6_step (x.1, x.2.1, ())) fun y1 => out1 y1
      (fun z2 =>
        ck (inB x.2.1 (z2.1.2.1.length)) <|
        Option.bind (table_Table_31_p1_j103_v (z2.1, !(z2.1.2.1.getD x.2.1.toNat (Ty.dflt .bool)), ())) fun y3 => out1 y3
          (fun z4 =>
            ck (inB x.2.1 (z4.1.1.length)) <|
            ck (inB x.2.1 (z4.1.2.1.length)) <|
            some (.inl (true, (z4.1.1.set x.2.1.toNat x.2.2.1, z4.1.2.1.set x.2.1.toNat true, z4.1.2.2), ())))))
noncomputable def k14L : LCtr := ⟨[0, 1, 2], (.cons (.ptr q21) (.cons (.val (.int .i64)) (.cons (.val .str) .nil))), [], [], [⟨.ret, [6, 0], (.cons (.val .bool) (.cons (.ptr q21) .nil)), [some 0, none, none]⟩], fun _ => [], table_Table_31_p1⟩
noncomputable def table_Table_31_p1_c : PI := mkPI Try.f13 k14L
theorem table_Table_31_p1_ok : PIOK Try.prog 13 table_Table_31_p1_c := proc_E k0 Try.func13 k14s (by kernel_rfl) (fun x => by kernel_rfl)
/-! ### (*easement/table.Table[string]).Get: function 12, at objects -/
noncomputable def table_Table_30_p0 (x : (Unit × Int × Unit)) : Option ((ByteArray × Bool × Unit) ⊕ Empty) :=
  ck (false || !false) <|
  ck (false || !false) <|
  ck (false || !false) <|
  ck (false || !false) <|
  ck (false || !false) <|
  some (.inl ((⟨#[]⟩ : ByteArray), false, ()))
noncomputable def k15L : LCtr := ⟨[0, 1], (.cons (.cst true) (.cons (.val (.int .i64)) .nil)), [], [], [⟨.ret, [4, 5], (.cons (.val .str) (.cons (.val .bool) .nil)), []⟩], fun _ => [], table_Table_30_p0⟩
noncomputable def table_Table_30_p0_c : PI := mkPI Try.f12 k15L
theorem table_Table_30_p0_ok : PIOK Try.prog 12 table_Table_30_p0_c := proc_E (ls := []) k0 Try.func12 trivial (by kernel_rfl) (fun x => by kernel_rfl)
/-! ### (*easement/table.Table[string]).Get: function 12, at objects -/
noncomputable def table_Table_30_p1 (x : T22) : Option ((ByteArray × Bool × ((List ByteArray) × (List Bool) × Int × Unit) × Unit) ⊕ Empty) :=
  cond (cond (decide (x.2.1 < (0 : Int))) true (decide (x.2.1 ≥ (x.1.1.length : Int))))
    (some (.inl ((⟨#[]⟩ : ByteArray), false, x.1, ())))
    (ck (inB x.2.1 (x.1.1.length)) <|
    ck (inB x.2.1 (x.1.2.1.length)) <|
    some (.inl (x.1.1.getD x.2.1.toNat (Ty.dflt .str), x.1.2.1.getD x.2.1.toNat (Ty.dflt .bool), x.1, ())))
noncomputable def k16L : LCtr := ⟨[0, 1], (.cons (.ptr q21) (.cons (.val (.int .i64)) .nil)), [], [], [⟨.ret, [4, 5, 0], (.cons (.val .str) (.cons (.val .bool) (.cons (.ptr q21) .nil))), [some 0, some 1, some 2]⟩], fun _ => [], table_Table_30_p1⟩
noncomputable def table_Table_30_p1_c : PI := mkPI Try.f12 k16L
theorem table_Table_30_p1_ok : PIOK Try.prog 12 table_Table_30_p1_c := proc_E (ls := []) k0 Try.func12 trivial (by kernel_rfl) (fun x => by kernel_rfl)
/-! ### easement/easementlaw08.TableNone: function 4 -/
noncomputable def k17 : FE Try.prog := ⟨[(6, law08_awake_c), (14, table_Table_32_c), (15, table_Table_33_c)], [(12, [table_Table_30_p0_c, table_Table_30_p1_c]), (13, [table_Table_31_p0_c, table_Table_31_p1_c])], [], [], ⟨law08_awake_ok, table_Table_32_ok, table_Table_33_ok, trivial⟩, ⟨⟨table_Table_30_p0_ok, table_Table_30_p1_ok, trivial⟩, ⟨table_Table_31_p0_ok, table_Table_31_p1_ok, trivial⟩, trivial⟩, trivial⟩
noncomputable def law08_TableNone (x : (Int × ByteArray × Unit)) : Option (Bool × Unit) :=
  cond (cond (decide ((x.2.1.size : Int) > (50 : Int))) true (cond (decide (x.1 > (2000 : Int))) (decide (x.1 < (1048576 : Int))) false))
    (Option.bind (law08_awake ()) fun y1 =>
    some y1)
    (Option.bind (table_Table_30_p0 ((), x.1, ())) fun y2 => out1 y2
      (fun z3 =>
        Option.bind (table_Table_31_p0 ((), x)) fun y4 => out1 y4
          (fun z5 =>
            cond (!(cond (cond z5.1 true (!(z3.1.toList == (⟨#[]⟩ : ByteArray).toList))) true z3.2.1))
              (Option.bind (table_Table_32 ((none : Option ((List ByteArray) × (List Bool) × Int × Unit)), x)) fun y6 =>
              cond (!(!(y6.1.toList == x.2.1.toList)))
                (Option.bind (table_Table_33 ((none : Option ((List ByteArray) × (List Bool) × Int × Unit)), ())) fun y7 =>
                cond (y7.1 != (0 : Int))
                  (some (false, ()))
                  (Option.bind (table_Table_31_p1 ((([] : List ByteArray), ([] : List Bool), (0 : Int), ()), x)) fun y8 => out1 y8
                    (fun z9 =>
                      Option.bind (table_Table_30_p1 (z9.2.1, x.1, ())) fun y10 => out1 y10
                        (fun z11 =>
                          cond (cond (cond (cond (z9.1 == (cond (decide (x.1 ≥ (0 : Int))) (decide (x.1 < (1048576 : Int))) false)) (z11.2.1 == z9.1) false) (cond (z11.1.toList == x.2.1.toList) true (!z9.1)) false) (cond (z11.1.toList == (⟨#[]⟩ : ByteArray).toList) true z9.1) false)
                            (Option.bind (law08_awake ()) fun y12 =>
                            some y12)
                            (some (false, ()))))))
                (some (false, ())))
              (some (false, ())))))
noncomputable def law08_TableNone_c : Ctr := ⟨(.cons (.int .i64) (.cons .str .nil)), (.cons .bool .nil), law08_TableNone, none⟩
theorem law08_TableNone_ok : CtrOK Try.prog 4 law08_TableNone_c := fun_E (ls := []) k17 Try.func4 trivial (by kernel_rfl) (fun x => by kernel_rfl)
end Go.XD


