/- For every input of bulk at most 1048576 the law ValidStays returns true, and its arguments read as they did. -/
import Derived.Test.YtpgmlgdbchjhfaaProg
import Derived.KernelRfl
import Derived.Test.YtpgmlgdbchjhfaaValidStaysUptoGa
import Derived.Test.YtpgmlgdbchjhfaaBd
set_option linter.unusedVariables false
set_option linter.unusedSimpArgs false
set_option linter.unusedSectionVars false
set_option linter.unnecessarySimpa false
set_option linter.deprecated false
set_option maxRecDepth 100000
/- Printed functions, continued. -/
namespace Go.XD
open Go.Proofs
/-! ### easement/row.Shape: function 43 -/
noncomputable def row_Shape_code : Code := Try.f43.body.getD .skip
noncomputable def row_Shape_fs : List (Nat × Ctr) := []
noncomputable def row_Shape_is : List (Nat × List PI) := [(82, [slices_EqualFunc_82_p0_c])]
theorem row_Shape_fsok : FsOK Try.prog row_Shape_fs := trivial
theorem row_Shape_isok : IsOK Try.prog row_Shape_is := ⟨⟨slices_EqualFunc_82_p0_ok, trivial⟩, trivial⟩
def row_Shape_fz : List (Nat × List Nat) := []
noncomputable def row_Shape_ls0 : List (Nat × LCtr) := []
theorem row_Shape_lsok0 : LsOK Try.prog Try.f43.ntmps row_Shape_code row_Shape_ls0 := trivial
noncomputable def row_Shape (x : (V_api_Type × V_api_Type × Unit)) : Option (Bool × Unit) :=
  Option.bind (slices_EqualFunc_82_p0 (x.1.1, x.2.1.1, (), ())) fun y1 => out1 y1
    (fun z2 =>
      some (z2.1, ()))
noncomputable def row_Shape_c : Ctr := ⟨(.cons t_api_Type (.cons t_api_Type .nil)), (.cons .bool .nil), row_Shape, none⟩
theorem row_Shape_ok : CtrOK Try.prog 43 row_Shape_c :=
  fun_at (fz := row_Shape_fz) row_Shape_fsok row_Shape_isok Try.func43 (by kernel_rfl) (c := row_Shape_code) (by kernel_rfl) row_Shape_lsok0 (by kernel_rfl) (fun x => by kernel_rfl)
/-! ### easement/sig.Check: function 112 -/
noncomputable def sig_Check_code : Code := Try.f112.body.getD .skip
noncomputable def sig_Check_fs : List (Nat × Ctr) := [(42, row_Check_c)]
noncomputable def sig_Check_is : List (Nat × List PI) := []
theorem sig_Check_fsok : FsOK Try.prog sig_Check_fs := ⟨row_Check_ok, trivial⟩
theorem sig_Check_isok : IsOK Try.prog sig_Check_is := trivial
def sig_Check_fz : List (Nat × List Nat) := []
noncomputable def sig_Check_ls0 : List (Nat × LCtr) := []
theorem sig_Check_lsok0 : LsOK Try.prog Try.f112.ntmps sig_Check_code sig_Check_ls0 := trivial
noncomputable def sig_Check_l12_step (g : ((Int × (List V_easementref08_Pair) × (List V_api_Type) × (List V_api_Slot) × Unit) × (List V_easementref08_Pair) × Int × Int × Unit) → Option ((Int × (Int × (List V_easementref08_Pair) × (List V_api_Type) × (List V_api_Slot) × Unit) × Unit) ⊕ (((Int × (List V_easementref08_Pair) × (List V_api_Type) × (List V_api_Slot) × Unit) × Unit) ⊕ Empty))) (x : ((Int × (List V_easementref08_Pair) × (List V_api_Type) × (List V_api_Slot) × Unit) × (List V_easementref08_Pair) × Int × Int × Unit)) : Option ((Int × (Int × (List V_easementref08_Pair) × (List V_api_Type) × (List V_api_Slot) × Unit) × Unit) ⊕ (((Int × (List V_easementref08_Pair) × (List V_api_Type) × (List V_api_Slot) × Unit) × Unit) ⊕ Empty)) :=
  cond (decide (x.2.2.2.1 < x.2.2.1))
    (ck (inB x.2.2.2.1 (x.2.1.length)) <|
    let v1 := rdL t_easementref08_Pair x.2.1 x.2.2.2.1
    cond (cond (cond (cond (decide (v1.1 < (0 : Int))) true (decide (v1.1 ≥ x.1.1))) true (decide (v1.2.1 < (0 : Int)))) true (decide (v1.2.1 ≥ x.1.1)))
      (some (.inl ((7 : Int), (x.1.1, x.1.2.1, x.1.2.2.1, x.1.2.2.2.1, ()), ())))
      (g ((x.1.1, x.1.2.1, x.1.2.2.1, x.1.2.2.2.1, ()), x.2.1, x.2.2.1, IntKind.i64.wrap (x.2.2.2.1 + (1 : Int)), ())))
    (some (.inr (.inl ((x.1.1, x.1.2.1, x.1.2.2.1, x.1.2.2.2.1, ()), ()))))
noncomputable def sig_Check_l12 : LCtr := ⟨[1, 29, 30, 31], (.cons (.ptr (.cons (.val (.int .i64)) (.cons (.val (.lst t_easementref08_Pair)) (.cons (.val (.lst t_api_Type)) (.cons (.val (.lst t_api_Slot)) .nil))))) (.cons (.val (.lst t_easementref08_Pair)) (.cons (.val (.int .i64)) (.cons (.val (.int .i64)) .nil)))), [some 0], [1], [⟨.ret, [2, 1], (.cons (.val (.int .i64)) (.cons (.ptr (.cons (.val (.int .i64)) (.cons (.val (.lst t_easementref08_Pair)) (.cons (.val (.lst t_api_Type)) (.cons (.val (.lst t_api_Slot)) .nil))))) .nil)), [some 0]⟩, ⟨(.exit 1), [1], (.cons (.ptr (.cons (.val (.int .i64)) (.cons (.val (.lst t_easementref08_Pair)) (.cons (.val (.lst t_api_Type)) (.cons (.val (.lst t_api_Slot)) .nil))))) .nil), [some 0]⟩], [], lim sig_Check_l12_step⟩
noncomputable def sig_Check_ls1 : List (Nat × LCtr) := (12, sig_Check_l12) :: sig_Check_ls0
theorem sig_Check_lsok1 : LsOK Try.prog Try.f112.ntmps sig_Check_code sig_Check_ls1 :=
  loop_at (L := sig_Check_l12) (fz := sig_Check_fz) sig_Check_fsok sig_Check_isok sig_Check_lsok0 (by kernel_rfl) (by kernel_rfl) (by kernel_rfl) (step := sig_Check_l12_step) rfl (fun g x => by kernel_rfl)
noncomputable def sig_Check_l24_step (g : ((Int × (List V_easementref08_Pair) × (List V_api_Type) × (List V_api_Slot) × Unit) × (List V_api_Type) × Int × Int × Unit) → Option ((Int × (Int × (List V_easementref08_Pair) × (List V_api_Type) × (List V_api_Slot) × Unit) × (List V_api_Type) × Unit) ⊕ (((Int × (List V_easementref08_Pair) × (List V_api_Type) × (List V_api_Slot) × Unit) × (List V_api_Type) × Unit) ⊕ Empty))) (x : ((Int × (List V_easementref08_Pair) × (List V_api_Type) × (List V_api_Slot) × Unit) × (List V_api_Type) × Int × Int × Unit)) : Option ((Int × (Int × (List V_easementref08_Pair) × (List V_api_Type) × (List V_api_Slot) × Unit) × (List V_api_Type) × Unit) ⊕ (((Int × (List V_easementref08_Pair) × (List V_api_Type) × (List V_api_Slot) × Unit) × (List V_api_Type) × Unit) ⊕ Empty)) :=
  cond (decide (x.2.2.2.1 < x.2.2.1))
    (ck (inB x.2.2.2.1 (x.2.1.length)) <|
    Option.bind (row_Check (((x.2.1.getD x.2.2.2.1.toNat (Ty.dflt t_api_Type)).1, ()), x.1.1, ())) fun y4 =>
    cond (y4.1 != (0 : Int))
      (some (.inl (y4.1, (x.1.1, x.1.2.1, x.1.2.2.1, x.1.2.2.2.1, ()), x.2.1, ())))
      (g ((x.1.1, x.1.2.1, x.1.2.2.1, x.1.2.2.2.1, ()), x.2.1, x.2.2.1, IntKind.i64.wrap (x.2.2.2.1 + (1 : Int)), ())))
    (some (.inr (.inl ((x.1.1, x.1.2.1, x.1.2.2.1, x.1.2.2.2.1, ()), x.2.1, ()))))
noncomputable def sig_Check_l24 : LCtr := ⟨[1, 64, 65, 66], (.cons (.ptr (.cons (.val (.int .i64)) (.cons (.val (.lst t_easementref08_Pair)) (.cons (.val (.lst t_api_Type)) (.cons (.val (.lst t_api_Slot)) .nil))))) (.cons (.own t_api_Type) (.cons (.val (.int .i64)) (.cons (.val (.int .i64)) .nil)))), [some 0, some 1], [], [⟨.ret, [2, 1, 64], (.cons (.val (.int .i64)) (.cons (.ptr (.cons (.val (.int .i64)) (.cons (.val (.lst t_easementref08_Pair)) (.cons (.val (.lst t_api_Type)) (.cons (.val (.lst t_api_Slot)) .nil))))) (.cons (.own t_api_Type) .nil))), [some 0, some 1]⟩, ⟨(.exit 3), [1, 64], (.cons (.ptr (.cons (.val (.int .i64)) (.cons (.val (.lst t_easementref08_Pair)) (.cons (.val (.lst t_api_Type)) (.cons (.val (.lst t_api_Slot)) .nil))))) (.cons (.own t_api_Type) .nil)), [some 0, some 1]⟩], [], lim sig_Check_l24_step⟩
noncomputable def sig_Check_ls2 : List (Nat × LCtr) := (24, sig_Check_l24) :: sig_Check_ls1
theorem sig_Check_lsok2 : LsOK Try.prog Try.f112.ntmps sig_Check_code sig_Check_ls2 :=
  loop_at (L := sig_Check_l24) (fz := sig_Check_fz) sig_Check_fsok sig_Check_isok sig_Check_lsok1 (by kernel_rfl) (by kernel_rfl) (by kernel_rfl) (step := sig_Check_l24_step) rfl (fun g x => by kernel_rfl)
noncomputable def sig_Check (x : (V_api_Sig × Unit)) : Option (Int × Unit) :=
  cond (decide (x.1.1 < (0 : Int)))
    (some ((7 : Int), ()))
    (cond (cond (cond (decide (x.1.1 > (16 : Int))) true (decide ((x.1.2.1.length : Int) > (16 : Int)))) true (decide ((x.1.2.2.1.length : Int) > (16 : Int))))
      (some ((6 : Int), ()))
      (Option.bind (lim sig_Check_l12_step ((x.1.1, x.1.2.1, x.1.2.2.1, x.1.2.2.2.1, ()), x.1.2.1, (x.1.2.1.length : Int), (0 : Int), ())) fun y1 => out2 y1
        (fun z2 =>
          some (z2.1, ()))
        (fun z3 =>
          let v1 := ([] : List V_api_Type) ++ z3.1.2.2.1
          ck (roomB v1.length 26) <|
          let v2 := v1 ++ [(z3.1.2.2.2.1, ())]
          ck (roomB v2.length 26) <|
          Option.bind (lim sig_Check_l24_step ((z3.1.1, z3.1.2.1, z3.1.2.2.1, z3.1.2.2.2.1, ()), v2, (v2.length : Int), (0 : Int), ())) fun y5 => out2 y5
            (fun z6 =>
              some (z6.1, ()))
            (fun z7 =>
              some ((0 : Int), ())))))
noncomputable def sig_Check_c : Ctr := ⟨(.cons t_api_Sig .nil), (.cons (.int .i64) .nil), sig_Check, none⟩
theorem sig_Check_ok : CtrOK Try.prog 112 sig_Check_c :=
  fun_at (fz := sig_Check_fz) sig_Check_fsok sig_Check_isok Try.func112 (by kernel_rfl) (c := sig_Check_code) (by kernel_rfl) sig_Check_lsok2 (by kernel_rfl) (fun x => by kernel_rfl)
/-! ### (*easement/valid.checker).types: function 94, at objects -/
noncomputable def valid_checker_types_p0_code : Code := Try.f94.body.getD .skip
noncomputable def valid_checker_types_p0_fs : List (Nat × Ctr) := [(111, valid_some_c), (42, row_Check_c), (43, row_Shape_c), (110, valid_many_c), (112, sig_Check_c)]
noncomputable def valid_checker_types_p0_is : List (Nat × List PI) := [(109, [valid_checker_wrong_p0_c])]
theorem valid_checker_types_p0_fsok : FsOK Try.prog valid_checker_types_p0_fs := ⟨valid_some_ok, row_Check_ok, row_Shape_ok, valid_many_ok, sig_Check_ok, trivial⟩
theorem valid_checker_types_p0_isok : IsOK Try.prog valid_checker_types_p0_is := ⟨⟨valid_checker_wrong_p0_ok, trivial⟩, trivial⟩
def valid_checker_types_p0_fz : List (Nat × List Nat) := []
noncomputable def valid_checker_types_p0_ls0 : List (Nat × LCtr) := []
theorem valid_checker_types_p0_lsok0 : LsOK Try.prog Try.f94.ntmps valid_checker_types_p0_code valid_checker_types_p0_ls0 := trivial
noncomputable def valid_checker_types_p0_l6_step (g : ((Int × Int × (List V_easementref08_Pair) × (List V_api_Type) × (List V_api_Slot) × (List V_api_Sig) × (List V_api_Block) × Unit × Int × Int × Int × Int × Unit) × (Int × Int × (List V_easementref08_Pair) × (List V_api_Type) × (List V_api_Slot) × (List V_api_Sig) × (List V_api_Block) × Unit) × (List V_api_Type) × Int × Int × Unit) → Option (((Int × Int × (List V_easementref08_Pair) × (List V_api_Type) × (List V_api_Slot) × (List V_api_Sig) × (List V_api_Block) × Unit × Int × Int × Int × Int × Unit) × (Int × Int × (List V_easementref08_Pair) × (List V_api_Type) × (List V_api_Slot) × (List V_api_Sig) × (List V_api_Block) × Unit) × Unit) ⊕ Empty)) (x : ((Int × Int × (List V_easementref08_Pair) × (List V_api_Type) × (List V_api_Slot) × (List V_api_Sig) × (List V_api_Block) × Unit × Int × Int × Int × Int × Unit) × (Int × Int × (List V_easementref08_Pair) × (List V_api_Type) × (List V_api_Slot) × (List V_api_Sig) × (List V_api_Block) × Unit) × (List V_api_Type) × Int × Int × Unit)) : Option (((Int × Int × (List V_easementref08_Pair) × (List V_api_Type) × (List V_api_Slot) × (List V_api_Sig) × (List V_api_Block) × Unit × Int × Int × Int × Int × Unit) × (Int × Int × (List V_easementref08_Pair) × (List V_api_Type) × (List V_api_Slot) × (List V_api_Sig) × (List V_api_Block) × Unit) × Unit) ⊕ Empty) :=
  cond (decide (x.2.2.2.2.1 < x.2.2.2.1))
    (ck (inB x.2.2.2.2.1 (x.2.2.1.length)) <|
    Option.bind (row_Check (((rdL t_api_Type x.2.2.1 x.2.2.2.2.1).1, ()), x.2.1.2.1, ())) fun y4 =>
    Option.bind (valid_checker_wrong_p0 ((x.1.1, x.1.2.1, x.1.2.2.1, x.1.2.2.2.1, x.1.2.2.2.2.1, x.1.2.2.2.2.2.1, x.1.2.2.2.2.2.2.1, (), x.1.2.2.2.2.2.2.2.2.1, x.1.2.2.2.2.2.2.2.2.2.1, x.1.2.2.2.2.2.2.2.2.2.2.1, x.1.2.2.2.2.2.2.2.2.2.2.2.1, ()), y4.1, (2 : Int), x.2.2.2.2.1, (0 : Int), ())) fun y5 => out1 y5
      (fun z6 =>
        g ((z6.1.1, z6.1.2.1, z6.1.2.2.1, z6.1.2.2.2.1, z6.1.2.2.2.2.1, z6.1.2.2.2.2.2.1, z6.1.2.2.2.2.2.2.1, (), z6.1.2.2.2.2.2.2.2.2.1, z6.1.2.2.2.2.2.2.2.2.2.1, z6.1.2.2.2.2.2.2.2.2.2.2.1, z6.1.2.2.2.2.2.2.2.2.2.2.2.1, ()), (x.2.1.1, x.2.1.2.1, x.2.1.2.2.1, x.2.1.2.2.2.1, x.2.1.2.2.2.2.1, x.2.1.2.2.2.2.2.1, x.2.1.2.2.2.2.2.2.1, ()), x.2.2.1, x.2.2.2.1, IntKind.i64.wrap (x.2.2.2.2.1 + (1 : Int)), ())))
    (some (.inl ((x.1.1, x.1.2.1, x.1.2.2.1, x.1.2.2.2.1, x.1.2.2.2.2.1, x.1.2.2.2.2.2.1, x.1.2.2.2.2.2.2.1, (), x.1.2.2.2.2.2.2.2.2.1, x.1.2.2.2.2.2.2.2.2.2.1, x.1.2.2.2.2.2.2.2.2.2.2.1, x.1.2.2.2.2.2.2.2.2.2.2.2.1, ()), (x.2.1.1, x.2.1.2.1, x.2.1.2.2.1, x.2.1.2.2.2.1, x.2.1.2.2.2.2.1, x.2.1.2.2.2.2.2.1, x.2.1.2.2.2.2.2.2.1, ()), ())))
noncomputable def valid_checker_types_p0_l6 : LCtr := ⟨[0, 2, 18, 19, 20], (.cons (.ptr (.cons (.val (.int .i64)) (.cons (.val (.int .i64)) (.cons (.val (.lst t_easementref08_Pair)) (.cons (.val (.lst t_api_Type)) (.cons (.val (.lst t_api_Slot)) (.cons (.val (.lst t_api_Sig)) (.cons (.val (.lst t_api_Block)) (.cons (.cst true) (.cons (.val (.int .i64)) (.cons (.val (.int .i64)) (.cons (.val (.int .i64)) (.cons (.val (.int .i64)) .nil))))))))))))) (.cons (.ptr (.cons (.val (.int .i64)) (.cons (.val (.int .i64)) (.cons (.val (.lst t_easementref08_Pair)) (.cons (.val (.lst t_api_Type)) (.cons (.val (.lst t_api_Slot)) (.cons (.val (.lst t_api_Sig)) (.cons (.val (.lst t_api_Block)) .nil)))))))) (.cons (.val (.lst t_api_Type)) (.cons (.val (.int .i64)) (.cons (.val (.int .i64)) .nil))))), [some 0, some 1], [0, 2], [⟨(.exit 0), [0, 2], (.cons (.ptr (.cons (.val (.int .i64)) (.cons (.val (.int .i64)) (.cons (.val (.lst t_easementref08_Pair)) (.cons (.val (.lst t_api_Type)) (.cons (.val (.lst t_api_Slot)) (.cons (.val (.lst t_api_Sig)) (.cons (.val (.lst t_api_Block)) (.cons (.cst true) (.cons (.val (.int .i64)) (.cons (.val (.int .i64)) (.cons (.val (.int .i64)) (.cons (.val (.int .i64)) .nil))))))))))))) (.cons (.ptr (.cons (.val (.int .i64)) (.cons (.val (.int .i64)) (.cons (.val (.lst t_easementref08_Pair)) (.cons (.val (.lst t_api_Type)) (.cons (.val (.lst t_api_Slot)) (.cons (.val (.lst t_api_Sig)) (.cons (.val (.lst t_api_Block)) .nil)))))))) .nil)), [some 0, some 1]⟩], [], lim valid_checker_types_p0_l6_step⟩
noncomputable def valid_checker_types_p0_ls1 : List (Nat × LCtr) := (6, valid_checker_types_p0_l6) :: valid_checker_types_p0_ls0
theorem valid_checker_types_p0_lsok1 : LsOK Try.prog Try.f94.ntmps valid_checker_types_p0_code valid_checker_types_p0_ls1 :=
  loop_at (L := valid_checker_types_p0_l6) (fz := valid_checker_types_p0_fz) valid_checker_types_p0_fsok valid_checker_types_p0_isok valid_checker_types_p0_lsok0 (by kernel_rfl) (by kernel_rfl) (by kernel_rfl) (step := valid_checker_types_p0_l6_step) rfl (fun g x => by kernel_rfl)
noncomputable def valid_checker_types_p0_j107_v (x : ((Int × Int × (List V_easementref08_Pair) × (List V_api_Type) × (List V_api_Slot) × (List V_api_Sig) × (List V_api_Block) × Unit × Int × Int × Int × Int × Unit) × Bool × Unit)) : Option (((Int × Int × (List V_easementref08_Pair) × (List V_api_Type) × (List V_api_Slot) × (List V_api_Sig) × (List V_api_Block) × Unit × Int × Int × Int × Int × Unit) × Unit) ⊕ Empty) :=
  cond (x.2.1)
    (Option.bind (valid_checker_wrong_p0 ((x.1.1, x.1.2.1, x.1.2.2.1, x.1.2.2.2.1, x.1.2.2.2.2.1, x.1.2.2.2.2.2.1, x.1.2.2.2.2.2.2.1, (), x.1.2.2.2.2.2.2.2.2.1, x.1.2.2.2.2.2.2.2.2.2.1, x.1.2.2.2.2.2.2.2.2.2.2.1, x.1.2.2.2.2.2.2.2.2.2.2.2.1, ()), (8 : Int), (3 : Int), (0 : Int), (0 : Int), ())) fun y13 => out1 y13
      (fun z14 =>
        some (.inl ((z14.1.1, z14.1.2.1, z14.1.2.2.1, z14.1.2.2.2.1, z14.1.2.2.2.2.1, z14.1.2.2.2.2.2.1, z14.1.2.2.2.2.2.2.1, (), z14.1.2.2.2.2.2.2.2.2.1, z14.1.2.2.2.2.2.2.2.2.2.1, z14.1.2.2.2.2.2.2.2.2.2.2.1, z14.1.2.2.2.2.2.2.2.2.2.2.2.1, ()), ()))))
    (some (.inl ((x.1.1, x.1.2.1, x.1.2.2.1, x.1.2.2.2.1, x.1.2.2.2.2.1, x.1.2.2.2.2.2.1, x.1.2.2.2.2.2.2.1, (), x.1.2.2.2.2.2.2.2.2.1, x.1.2.2.2.2.2.2.2.2.2.1, x.1.2.2.2.2.2.2.2.2.2.2.1, x.1.2.2.2.2.2.2.2.2.2.2.2.1, ()), ())))
noncomputable def valid_checker_types_p0_j107 : LCtr := ⟨[0, 53], (.cons (.ptr (.cons (.val (.int .i64)) (.cons (.val (.int .i64)) (.cons (.val (.lst t_easementref08_Pair)) (.cons (.val (.lst t_api_Type)) (.cons (.val (.lst t_api_Slot)) (.cons (.val (.lst t_api_Sig)) (.cons (.val (.lst t_api_Block)) (.cons (.cst true) (.cons (.val (.int .i64)) (.cons (.val (.int .i64)) (.cons (.val (.int .i64)) (.cons (.val (.int .i64)) .nil))))))))))))) (.cons (.val .bool) .nil)), [], [0, 2], [⟨.normal, [0], (.cons (.ptr (.cons (.val (.int .i64)) (.cons (.val (.int .i64)) (.cons (.val (.lst t_easementref08_Pair)) (.cons (.val (.lst t_api_Type)) (.cons (.val (.lst t_api_Slot)) (.cons (.val (.lst t_api_Sig)) (.cons (.val (.lst t_api_Block)) (.cons (.cst true) (.cons (.val (.int .i64)) (.cons (.val (.int .i64)) (.cons (.val (.int .i64)) (.cons (.val (.int .i64)) .nil))))))))))))) .nil), [some 0]⟩], [], valid_checker_types_p0_j107_v⟩
noncomputable def valid_checker_types_p0_ls2 : List (Nat × LCtr) := (1179755, valid_checker_types_p0_j107) :: valid_checker_types_p0_ls1
theorem valid_checker_types_p0_lsok2 : LsOK Try.prog Try.f94.ntmps valid_checker_types_p0_code valid_checker_types_p0_ls2 :=
  join_at (L := valid_checker_types_p0_j107) (fz := valid_checker_types_p0_fz) valid_checker_types_p0_fsok valid_checker_types_p0_isok valid_checker_types_p0_lsok1 (by kernel_rfl) (by kernel_rfl) (fun x => by kernel_rfl)
noncomputable def valid_checker_types_p0_l24_step (g : ((Int × Int × (List V_easementref08_Pair) × (List V_api_Type) × (List V_api_Slot) × (List V_api_Sig) × (List V_api_Block) × Unit × Int × Int × Int × Int × Unit) × (List V_api_Sig) × Int × Int × Unit) → Option (((Int × Int × (List V_easementref08_Pair) × (List V_api_Type) × (List V_api_Slot) × (List V_api_Sig) × (List V_api_Block) × Unit × Int × Int × Int × Int × Unit) × Unit) ⊕ Empty)) (x : ((Int × Int × (List V_easementref08_Pair) × (List V_api_Type) × (List V_api_Slot) × (List V_api_Sig) × (List V_api_Block) × Unit × Int × Int × Int × Int × Unit) × (List V_api_Sig) × Int × Int × Unit)) : Option (((Int × Int × (List V_easementref08_Pair) × (List V_api_Type) × (List V_api_Slot) × (List V_api_Sig) × (List V_api_Block) × Unit × Int × Int × Int × Int × Unit) × Unit) ⊕ Empty) :=
  cond (decide (x.2.2.2.1 < x.2.2.1))
    (ck (inB x.2.2.2.1 (x.2.1.length)) <|
    let v1 := rdL t_api_Sig x.2.1 x.2.2.2.1
    Option.bind (sig_Check ((v1.1, v1.2.1, v1.2.2.1, v1.2.2.2.1, ()), ())) fun y20 =>
    Option.bind (valid_checker_wrong_p0 ((x.1.1, x.1.2.1, x.1.2.2.1, x.1.2.2.2.1, x.1.2.2.2.2.1, x.1.2.2.2.2.2.1, x.1.2.2.2.2.2.2.1, (), x.1.2.2.2.2.2.2.2.2.1, x.1.2.2.2.2.2.2.2.2.2.1, x.1.2.2.2.2.2.2.2.2.2.2.1, x.1.2.2.2.2.2.2.2.2.2.2.2.1, ()), y20.1, (4 : Int), x.2.2.2.1, (0 : Int), ())) fun y21 => out1 y21
      (fun z22 =>
        g ((z22.1.1, z22.1.2.1, z22.1.2.2.1, z22.1.2.2.2.1, z22.1.2.2.2.2.1, z22.1.2.2.2.2.2.1, z22.1.2.2.2.2.2.2.1, (), z22.1.2.2.2.2.2.2.2.2.1, z22.1.2.2.2.2.2.2.2.2.2.1, z22.1.2.2.2.2.2.2.2.2.2.2.1, z22.1.2.2.2.2.2.2.2.2.2.2.2.1, ()), x.2.1, x.2.2.1, IntKind.i64.wrap (x.2.2.2.1 + (1 : Int)), ())))
    (some (.inl ((x.1.1, x.1.2.1, x.1.2.2.1, x.1.2.2.2.1, x.1.2.2.2.2.1, x.1.2.2.2.2.2.1, x.1.2.2.2.2.2.2.1, (), x.1.2.2.2.2.2.2.2.2.1, x.1.2.2.2.2.2.2.2.2.2.1, x.1.2.2.2.2.2.2.2.2.2.2.1, x.1.2.2.2.2.2.2.2.2.2.2.2.1, ()), ())))
noncomputable def valid_checker_types_p0_l24 : LCtr := ⟨[0, 63, 64, 65], (.cons (.ptr (.cons (.val (.int .i64)) (.cons (.val (.int .i64)) (.cons (.val (.lst t_easementref08_Pair)) (.cons (.val (.lst t_api_Type)) (.cons (.val (.lst t_api_Slot)) (.cons (.val (.lst t_api_Sig)) (.cons (.val (.lst t_api_Block)) (.cons (.cst true) (.cons (.val (.int .i64)) (.cons (.val (.int .i64)) (.cons (.val (.int .i64)) (.cons (.val (.int .i64)) .nil))))))))))))) (.cons (.val (.lst t_api_Sig)) (.cons (.val (.int .i64)) (.cons (.val (.int .i64)) .nil)))), [some 0], [0], [⟨(.exit 2), [0], (.cons (.ptr (.cons (.val (.int .i64)) (.cons (.val (.int .i64)) (.cons (.val (.lst t_easementref08_Pair)) (.cons (.val (.lst t_api_Type)) (.cons (.val (.lst t_api_Slot)) (.cons (.val (.lst t_api_Sig)) (.cons (.val (.lst t_api_Block)) (.cons (.cst true) (.cons (.val (.int .i64)) (.cons (.val (.int .i64)) (.cons (.val (.int .i64)) (.cons (.val (.int .i64)) .nil))))))))))))) .nil), [some 0]⟩], [], lim valid_checker_types_p0_l24_step⟩
noncomputable def valid_checker_types_p0_ls3 : List (Nat × LCtr) := (24, valid_checker_types_p0_l24) :: valid_checker_types_p0_ls2
theorem valid_checker_types_p0_lsok3 : LsOK Try.prog Try.f94.ntmps valid_checker_types_p0_code valid_checker_types_p0_ls3 :=
  loop_at (L := valid_checker_types_p0_l24) (fz := valid_checker_types_p0_fz) valid_checker_types_p0_fsok valid_checker_types_p0_isok valid_checker_types_p0_lsok2 (by kernel_rfl) (by kernel_rfl) (by kernel_rfl) (step := valid_checker_types_p0_l24_step) rfl (fun g x => by kernel_rfl)
noncomputable def valid_checker_types_p0 (x : ((Int × Int × (List V_easementref08_Pair) × (List V_api_Type) × (List V_api_Slot) × (List V_api_Sig) × (List V_api_Block) × Unit × Int × Int × Int × Int × Unit) × Unit)) : Option (((Int × Int × (List V_easementref08_Pair) × (List V_api_Type) × (List V_api_Slot) × (List V_api_Sig) × (List V_api_Block) × Unit × Int × Int × Int × Int × Unit) × Unit) ⊕ Empty) :=
  Option.bind (valid_some ((x.1.2.2.2.1.length : Int), ())) fun y1 =>
  Option.bind (valid_checker_wrong_p0 ((x.1.1, x.1.2.1, x.1.2.2.1, x.1.2.2.2.1, x.1.2.2.2.2.1, x.1.2.2.2.2.2.1, x.1.2.2.2.2.2.2.1, (), x.1.2.2.2.2.2.2.2.2.1, x.1.2.2.2.2.2.2.2.2.2.1, x.1.2.2.2.2.2.2.2.2.2.2.1, x.1.2.2.2.2.2.2.2.2.2.2.2.1, ()), y1.1, (2 : Int), (0 : Int), (0 : Int), ())) fun y2 => out1 y2
    (fun z3 =>
      Option.bind (lim valid_checker_types_p0_l6_step ((z3.1.1, z3.1.2.1, z3.1.2.2.1, z3.1.2.2.2.1, z3.1.2.2.2.2.1, z3.1.2.2.2.2.2.1, z3.1.2.2.2.2.2.2.1, (), z3.1.2.2.2.2.2.2.2.2.1, z3.1.2.2.2.2.2.2.2.2.2.1, z3.1.2.2.2.2.2.2.2.2.2.2.1, z3.1.2.2.2.2.2.2.2.2.2.2.2.1, ()), (x.1.1, x.1.2.1, x.1.2.2.1, x.1.2.2.2.1, x.1.2.2.2.2.1, x.1.2.2.2.2.2.1, x.1.2.2.2.2.2.2.1, ()), x.1.2.2.2.1, (x.1.2.2.2.1.length : Int), (0 : Int), ())) fun y7 => out1 y7
        (fun z8 =>
          Option.bind (row_Check ((z8.2.1.2.2.2.2.1, ()), z8.2.1.1, ())) fun y9 =>
          Option.bind (valid_checker_wrong_p0 ((z8.1.1, z8.1.2.1, z8.1.2.2.1, z8.1.2.2.2.1, z8.1.2.2.2.2.1, z8.1.2.2.2.2.2.1, z8.1.2.2.2.2.2.2.1, (), z8.1.2.2.2.2.2.2.2.2.1, z8.1.2.2.2.2.2.2.2.2.2.1, z8.1.2.2.2.2.2.2.2.2.2.2.1, z8.1.2.2.2.2.2.2.2.2.2.2.2.1, ()), y9.1, (3 : Int), (0 : Int), (0 : Int), ())) fun y10 => out1 y10
            (fun z11 =>
              let v1 := decide ((z8.2.1.2.2.2.1.length : Int) > (0 : Int))
              ck ((inB (0 : Int) (z8.2.1.2.2.2.1.length)) || !v1) <|
              cond (v1)
                (Option.bind (row_Shape (((rdL t_api_Type z8.2.1.2.2.2.1 (0 : Int)).1, ()), (z8.2.1.2.2.2.2.1, ()), ())) fun y12 =>
                Option.bind (valid_checker_types_p0_j107_v ((z11.1.1, z11.1.2.1, z11.1.2.2.1, z11.1.2.2.2.1, z11.1.2.2.2.2.1, z11.1.2.2.2.2.2.1, z11.1.2.2.2.2.2.2.1, (), z11.1.2.2.2.2.2.2.2.2.1, z11.1.2.2.2.2.2.2.2.2.2.1, z11.1.2.2.2.2.2.2.2.2.2.2.1, z11.1.2.2.2.2.2.2.2.2.2.2.2.1, ()), !y12.1, ())) fun y15 => out1 y15
                  (fun z16 =>
                    Option.bind (valid_many ((z8.2.1.2.2.2.2.2.1.length : Int), ())) fun y17 =>
                    Option.bind (valid_checker_wrong_p0 ((z16.1.1, z16.1.2.1, z16.1.2.2.1, z16.1.2.2.2.1, z16.1.2.2.2.2.1, z16.1.2.2.2.2.2.1, z16.1.2.2.2.2.2.2.1, (), z16.1.2.2.2.2.2.2.2.2.1, z16.1.2.2.2.2.2.2.2.2.2.1, z16.1.2.2.2.2.2.2.2.2.2.2.1, z16.1.2.2.2.2.2.2.2.2.2.2.2.1, ()), y17.1, (4 : Int), (0 : Int), (0 : Int), ())) fun y18 => out1 y18
                      (fun z19 =>
                        Option.bind (lim valid_checker_types_p0_l24_step ((z19.1.1, z19.1.2.1, z19.1.2.2.1, z19.1.2.2.2.1, z19.1.2.2.2.2.1, z19.1.2.2.2.2.2.1, z19.1.2.2.2.2.2.2.1, (), z19.1.2.2.2.2.2.2.2.2.1, z19.1.2.2.2.2.2.2.2.2.2.1, z19.1.2.2.2.2.2.2.2.2.2.2.1, z19.1.2.2.2.2.2.2.2.2.2.2.2.1, ()), z8.2.1.2.2.2.2.2.1, (z8.2.1.2.2.2.2.2.1.length : Int), (0 : Int), ())) fun y23 => out1 y23
                          (fun z24 =>
                            some (.inl ((z24.1.1, z24.1.2.1, z24.1.2.2.1, z24.1.2.2.2.1, z24.1.2.2.2.2.1, z24.1.2.2.2.2.2.1, z24.1.2.2.2.2.2.2.1, (), z24.1.2.2.2.2.2.2.2.2.1, z24.1.2.2.2.2.2.2.2.2.2.1, z24.1.2.2.2.2.2.2.2.2.2.2.1, z24.1.2.2.2.2.2.2.2.2.2.2.2.1, ()), ()))))))
                (Option.bind (valid_checker_types_p0_j107_v ((z11.1.1, z11.1.2.1, z11.1.2.2.1, z11.1.2.2.2.1, z11.1.2.2.2.2.1, z11.1.2.2.2.2.2.1, z11.1.2.2.2.2.2.2.1, (), z11.1.2.2.2.2.2.2.2.2.1, z11.1.2.2.2.2.2.2.2.2.2.1, z11.1.2.2.2.2.2.2.2.2.2.2.1, z11.1.2.2.2.2.2.2.2.2.2.2.2.1, ()), false, ())) fun y25 => out1 y25
                  (fun z26 =>
                    Option.bind (valid_many ((z8.2.1.2.2.2.2.2.1.length : Int), ())) fun y27 =>
                    Option.bind (valid_checker_wrong_p0 ((z26.1.1, z26.1.2.1, z26.1.2.2.1, z26.1.2.2.2.1, z26.1.2.2.2.2.1, z26.1.2.2.2.2.2.1, z26.1.2.2.2.2.2.2.1, (), z26.1.2.2.2.2.2.2.2.2.1, z26.1.2.2.2.2.2.2.2.2.2.1, z26.1.2.2.2.2.2.2.2.2.2.2.1, z26.1.2.2.2.2.2.2.2.2.2.2.2.1, ()), y27.1, (4 : Int), (0 : Int), (0 : Int), ())) fun y28 => out1 y28
                      (fun z29 =>
                        Option.bind (lim valid_checker_types_p0_l24_step ((z29.1.1, z29.1.2.1, z29.1.2.2.1, z29.1.2.2.2.1, z29.1.2.2.2.2.1, z29.1.2.2.2.2.2.1, z29.1.2.2.2.2.2.2.1, (), z29.1.2.2.2.2.2.2.2.2.1, z29.1.2.2.2.2.2.2.2.2.2.1, z29.1.2.2.2.2.2.2.2.2.2.2.1, z29.1.2.2.2.2.2.2.2.2.2.2.2.1, ()), z8.2.1.2.2.2.2.2.1, (z8.2.1.2.2.2.2.2.1.length : Int), (0 : Int), ())) fun y30 => out1 y30
                          (fun z31 =>
                            some (.inl ((z31.1.1, z31.1.2.1, z31.1.2.2.1, z31.1.2.2.2.1, z31.1.2.2.2.2.1, z31.1.2.2.2.2.2.1, z31.1.2.2.2.2.2.2.1, (), z31.1.2.2.2.2.2.2.2.2.1, z31.1.2.2.2.2.2.2.2.2.2.1, z31.1.2.2.2.2.2.2.2.2.2.2.1, z31.1.2.2.2.2.2.2.2.2.2.2.2.1, ()), ())))))))))
noncomputable def valid_checker_types_p0_L : LCtr := ⟨[0], (.cons (.ptr (.cons (.val (.int .i64)) (.cons (.val (.int .i64)) (.cons (.val (.lst t_easementref08_Pair)) (.cons (.val (.lst t_api_Type)) (.cons (.val (.lst t_api_Slot)) (.cons (.val (.lst t_api_Sig)) (.cons (.val (.lst t_api_Block)) (.cons (.cst true) (.cons (.val (.int .i64)) (.cons (.val (.int .i64)) (.cons (.val (.int .i64)) (.cons (.val (.int .i64)) .nil))))))))))))) .nil), [], [], [⟨.normal, [0], (.cons (.ptr (.cons (.val (.int .i64)) (.cons (.val (.int .i64)) (.cons (.val (.lst t_easementref08_Pair)) (.cons (.val (.lst t_api_Type)) (.cons (.val (.lst t_api_Slot)) (.cons (.val (.lst t_api_Sig)) (.cons (.val (.lst t_api_Block)) (.cons (.cst true) (.cons (.val (.int .i64)) (.cons (.val (.int .i64)) (.cons (.val (.int .i64)) (.cons (.val (.int .i64)) .nil))))))))))))) .nil), [some 0]⟩], [], valid_checker_types_p0⟩
noncomputable def valid_checker_types_p0_c : PI := ⟨Try.f94.ntmps, valid_checker_types_p0_code, Try.f94.results.toList, valid_checker_types_p0_L⟩
theorem valid_checker_types_p0_ok : PIOK Try.prog 94 valid_checker_types_p0_c :=
  proc_at (L := valid_checker_types_p0_L) (fz := valid_checker_types_p0_fz) valid_checker_types_p0_fsok valid_checker_types_p0_isok Try.func94 (by kernel_rfl) (by kernel_rfl) valid_checker_types_p0_lsok3 (by kernel_rfl) (fun x => by kernel_rfl)
/-! ### easement/stmt.of: function 152 -/
noncomputable def stmt_of_code : Code := Try.f152.body.getD .skip
noncomputable def stmt_of_fs : List (Nat × Ctr) := []
noncomputable def stmt_of_is : List (Nat × List PI) := []
theorem stmt_of_fsok : FsOK Try.prog stmt_of_fs := trivial
theorem stmt_of_isok : IsOK Try.prog stmt_of_is := trivial
def stmt_of_fz : List (Nat × List Nat) := []
noncomputable def stmt_of_ls0 : List (Nat × LCtr) := []
theorem stmt_of_lsok0 : LsOK Try.prog Try.f152.ntmps stmt_of_code stmt_of_ls0 := trivial
noncomputable def stmt_of_j23_v (x : (Int × Bool × Unit)) : Option ((Bool × Unit) ⊕ Empty) :=
  cond (x.2.1)
    (some (.inl (x.2.1, ())))
    (some (.inl (x.1 == (3 : Int), ())))
noncomputable def stmt_of_j23 : LCtr := ⟨[4, 11], (.cons (.val (.int .i64)) (.cons (.val .bool) .nil)), [], [2, 4], [⟨.normal, [11], (.cons (.val .bool) .nil), []⟩], [], stmt_of_j23_v⟩
noncomputable def stmt_of_ls1 : List (Nat × LCtr) := (60129542167, stmt_of_j23) :: stmt_of_ls0
theorem stmt_of_lsok1 : LsOK Try.prog Try.f152.ntmps stmt_of_code stmt_of_ls1 :=
  join_at (L := stmt_of_j23) (fz := stmt_of_fz) stmt_of_fsok stmt_of_isok stmt_of_lsok0 (by kernel_rfl) (by kernel_rfl) (fun x => by kernel_rfl)
noncomputable def stmt_of (x : (Int × Unit)) : Option (V_stmt_fields × Bool × Unit) :=
  cond (x.1 == (0 : Int))
    (some ((false, false, false, ()), true, ()))
    (cond (x.1 == (1 : Int))
      (some ((true, true, false, ()), true, ()))
      (Option.bind (stmt_of_j23_v (x.1, x.1 == (2 : Int), ())) fun y1 => out1 y1
        (fun z2 =>
          cond (z2.1)
            (some ((true, true, true, ()), true, ()))
            (cond (x.1 == (4 : Int))
              (some ((false, true, false, ()), true, ()))
              (cond (x.1 == (5 : Int))
                (some ((true, false, false, ()), true, ()))
                (some ((false, false, false, ()), false, ())))))))
noncomputable def stmt_of_c : Ctr := ⟨(.cons (.int .i64) .nil), (.cons t_stmt_fields (.cons .bool .nil)), stmt_of, none⟩
theorem stmt_of_ok : CtrOK Try.prog 152 stmt_of_c :=
  fun_at (fz := stmt_of_fz) stmt_of_fsok stmt_of_isok Try.func152 (by kernel_rfl) (c := stmt_of_code) (by kernel_rfl) stmt_of_lsok1 (by kernel_rfl) (fun x => by kernel_rfl)
/-! ### easement/stmt.form: function 124 -/
noncomputable def stmt_form_code : Code := Try.f124.body.getD .skip
noncomputable def stmt_form_fs : List (Nat × Ctr) := [(152, stmt_of_c)]
noncomputable def stmt_form_is : List (Nat × List PI) := []
theorem stmt_form_fsok : FsOK Try.prog stmt_form_fs := ⟨stmt_of_ok, trivial⟩
theorem stmt_form_isok : IsOK Try.prog stmt_form_is := trivial
def stmt_form_fz : List (Nat × List Nat) := []
noncomputable def stmt_form_ls0 : List (Nat × LCtr) := []
theorem stmt_form_lsok0 : LsOK Try.prog Try.f124.ntmps stmt_form_code stmt_form_ls0 := trivial
noncomputable def stmt_form_j35_v (x : ((Int × Int × Int × Int × Bool × Unit) × (Int × Int × Int × Int × Bool × Unit) × Bool × Unit)) : Option (((Int × Int × Int × Int × Bool × Unit) × (Int × Int × Int × Int × Bool × Unit) × Unit) ⊕ Empty) :=
  cond (x.2.2.1)
    (some (.inl ((x.1.1, x.1.2.1, x.1.2.2.1, x.1.2.2.2.1, x.1.2.2.2.2.1, ()), (x.2.1.1, x.1.2.1, x.2.1.2.2.1, x.2.1.2.2.2.1, x.2.1.2.2.2.2.1, ()), ())))
    (some (.inl ((x.1.1, x.1.2.1, x.1.2.2.1, x.1.2.2.2.1, x.1.2.2.2.2.1, ()), (x.2.1.1, x.2.1.2.1, x.2.1.2.2.1, x.2.1.2.2.2.1, x.2.1.2.2.2.2.1, ()), ())))
noncomputable def stmt_form_j35 : LCtr := ⟨[1, 6, 17], (.cons (.ptr (.cons (.val (.int .i64)) (.cons (.val (.int .i64)) (.cons (.val (.int .i64)) (.cons (.val (.int .i64)) (.cons (.val .bool) .nil)))))) (.cons (.ptr (.cons (.val (.int .i64)) (.cons (.val (.int .i64)) (.cons (.val (.int .i64)) (.cons (.val (.int .i64)) (.cons (.val .bool) .nil)))))) (.cons (.val .bool) .nil))), [], [1, 2, 4, 5, 6], [⟨.normal, [1, 6], (.cons (.ptr (.cons (.val (.int .i64)) (.cons (.val (.int .i64)) (.cons (.val (.int .i64)) (.cons (.val (.int .i64)) (.cons (.val .bool) .nil)))))) (.cons (.ptr (.cons (.val (.int .i64)) (.cons (.val (.int .i64)) (.cons (.val (.int .i64)) (.cons (.val (.int .i64)) (.cons (.val .bool) .nil)))))) .nil)), [some 0, some 1]⟩], [], stmt_form_j35_v⟩
noncomputable def stmt_form_ls1 : List (Nat × LCtr) := (524323, stmt_form_j35) :: stmt_form_ls0
theorem stmt_form_lsok1 : LsOK Try.prog Try.f124.ntmps stmt_form_code stmt_form_ls1 :=
  join_at (L := stmt_form_j35) (fz := stmt_form_fz) stmt_form_fsok stmt_form_isok stmt_form_lsok0 (by kernel_rfl) (by kernel_rfl) (fun x => by kernel_rfl)
noncomputable def stmt_form_j45_v (x : ((Int × Int × Int × Int × Bool × Unit) × (Int × Int × Int × Int × Bool × Unit) × Bool × Unit)) : Option (((Int × Int × Int × Int × Bool × Unit) × (Int × Int × Int × Int × Bool × Unit) × Unit) ⊕ Empty) :=
  cond (x.2.2.1)
    (some (.inl ((x.1.1, x.1.2.1, x.1.2.2.1, x.1.2.2.2.1, x.1.2.2.2.2.1, ()), (x.2.1.1, x.2.1.2.1, x.1.2.2.1, x.2.1.2.2.2.1, x.2.1.2.2.2.2.1, ()), ())))
    (some (.inl ((x.1.1, x.1.2.1, x.1.2.2.1, x.1.2.2.2.1, x.1.2.2.2.2.1, ()), (x.2.1.1, x.2.1.2.1, x.2.1.2.2.1, x.2.1.2.2.2.1, x.2.1.2.2.2.2.1, ()), ())))
noncomputable def stmt_form_j45 : LCtr := ⟨[1, 6, 22], (.cons (.ptr (.cons (.val (.int .i64)) (.cons (.val (.int .i64)) (.cons (.val (.int .i64)) (.cons (.val (.int .i64)) (.cons (.val .bool) .nil)))))) (.cons (.ptr (.cons (.val (.int .i64)) (.cons (.val (.int .i64)) (.cons (.val (.int .i64)) (.cons (.val (.int .i64)) (.cons (.val .bool) .nil)))))) (.cons (.val .bool) .nil))), [], [1, 2, 4, 5, 6], [⟨.normal, [1, 6], (.cons (.ptr (.cons (.val (.int .i64)) (.cons (.val (.int .i64)) (.cons (.val (.int .i64)) (.cons (.val (.int .i64)) (.cons (.val .bool) .nil)))))) (.cons (.ptr (.cons (.val (.int .i64)) (.cons (.val (.int .i64)) (.cons (.val (.int .i64)) (.cons (.val (.int .i64)) (.cons (.val .bool) .nil)))))) .nil)), [some 0, some 1]⟩], [], stmt_form_j45_v⟩
noncomputable def stmt_form_ls2 : List (Nat × LCtr) := (786477, stmt_form_j45) :: stmt_form_ls1
theorem stmt_form_lsok2 : LsOK Try.prog Try.f124.ntmps stmt_form_code stmt_form_ls2 :=
  join_at (L := stmt_form_j45) (fz := stmt_form_fz) stmt_form_fsok stmt_form_isok stmt_form_lsok1 (by kernel_rfl) (by kernel_rfl) (fun x => by kernel_rfl)
noncomputable def stmt_form_j55_v (x : ((Int × Int × Int × Int × Bool × Unit) × (Int × Int × Int × Int × Bool × Unit) × Bool × Unit)) : Option (((Int × Int × Int × Int × Bool × Unit) × (Int × Int × Int × Int × Bool × Unit) × Unit) ⊕ Empty) :=
  cond (x.2.2.1)
    (some (.inl ((x.1.1, x.1.2.1, x.1.2.2.1, x.1.2.2.2.1, x.1.2.2.2.2.1, ()), (x.2.1.1, x.2.1.2.1, x.2.1.2.2.1, x.1.2.2.2.1, x.1.2.2.2.2.1, ()), ())))
    (some (.inl ((x.1.1, x.1.2.1, x.1.2.2.1, x.1.2.2.2.1, x.1.2.2.2.2.1, ()), (x.2.1.1, x.2.1.2.1, x.2.1.2.2.1, x.2.1.2.2.2.1, x.2.1.2.2.2.2.1, ()), ())))
noncomputable def stmt_form_j55 : LCtr := ⟨[1, 6, 27], (.cons (.ptr (.cons (.val (.int .i64)) (.cons (.val (.int .i64)) (.cons (.val (.int .i64)) (.cons (.val (.int .i64)) (.cons (.val .bool) .nil)))))) (.cons (.ptr (.cons (.val (.int .i64)) (.cons (.val (.int .i64)) (.cons (.val (.int .i64)) (.cons (.val (.int .i64)) (.cons (.val .bool) .nil)))))) (.cons (.val .bool) .nil))), [], [1, 2, 4, 5, 6], [⟨.normal, [1, 6], (.cons (.ptr (.cons (.val (.int .i64)) (.cons (.val (.int .i64)) (.cons (.val (.int .i64)) (.cons (.val (.int .i64)) (.cons (.val .bool) .nil)))))) (.cons (.ptr (.cons (.val (.int .i64)) (.cons (.val (.int .i64)) (.cons (.val (.int .i64)) (.cons (.val (.int .i64)) (.cons (.val .bool) .nil)))))) .nil)), [some 0, some 1]⟩], [], stmt_form_j55_v⟩
noncomputable def stmt_form_ls3 : List (Nat × LCtr) := (1048631, stmt_form_j55) :: stmt_form_ls2
theorem stmt_form_lsok3 : LsOK Try.prog Try.f124.ntmps stmt_form_code stmt_form_ls3 :=
  join_at (L := stmt_form_j55) (fz := stmt_form_fz) stmt_form_fsok stmt_form_isok stmt_form_lsok2 (by kernel_rfl) (by kernel_rfl) (fun x => by kernel_rfl)
noncomputable def stmt_form (x : (V_api_Prov × Unit)) : Option (V_stmt_fields × Bool × Unit) :=
  Option.bind (stmt_of (x.1.1, ())) fun y1 =>
  Option.bind (stmt_form_j35_v ((x.1.1, x.1.2.1, x.1.2.2.1, x.1.2.2.2.1, x.1.2.2.2.2.1, ()), (x.1.1, (0 : Int), (0 : Int), (0 : Int), false, ()), y1.1.1, ())) fun y2 => out1 y2
    (fun z3 =>
      Option.bind (stmt_form_j45_v ((z3.1.1, z3.1.2.1, z3.1.2.2.1, z3.1.2.2.2.1, z3.1.2.2.2.2.1, ()), (z3.2.1.1, z3.2.1.2.1, z3.2.1.2.2.1, z3.2.1.2.2.2.1, z3.2.1.2.2.2.2.1, ()), y1.1.2.1, ())) fun y4 => out1 y4
        (fun z5 =>
          Option.bind (stmt_form_j55_v ((z5.1.1, z5.1.2.1, z5.1.2.2.1, z5.1.2.2.2.1, z5.1.2.2.2.2.1, ()), (z5.2.1.1, z5.2.1.2.1, z5.2.1.2.2.1, z5.2.1.2.2.2.1, z5.2.1.2.2.2.2.1, ()), y1.1.2.2.1, ())) fun y6 => out1 y6
            (fun z7 =>
              some ((y1.1.1, y1.1.2.1, y1.1.2.2.1, ()), cond y1.2.1 ((z7.2.1.1 == z7.1.1) && ((z7.2.1.2.1 == z7.1.2.1) && ((z7.2.1.2.2.1 == z7.1.2.2.1) && ((z7.2.1.2.2.2.1 == z7.1.2.2.2.1) && ((z7.2.1.2.2.2.2.1 == z7.1.2.2.2.2.1) && true))))) false, ()))))
noncomputable def stmt_form_c : Ctr := ⟨(.cons t_api_Prov .nil), (.cons t_stmt_fields (.cons .bool .nil)), stmt_form, none⟩
theorem stmt_form_ok : CtrOK Try.prog 124 stmt_form_c :=
  fun_at (fz := stmt_form_fz) stmt_form_fsok stmt_form_isok Try.func124 (by kernel_rfl) (c := stmt_form_code) (by kernel_rfl) stmt_form_lsok3 (by kernel_rfl) (fun x => by kernel_rfl)
/-! ### (*easement/relate.maker).put: function 168, at objects -/
noncomputable def relate_maker_put_p0_code : Code := Try.f168.body.getD .skip
noncomputable def relate_maker_put_p0_fs : List (Nat × Ctr) := []
noncomputable def relate_maker_put_p0_is : List (Nat × List PI) := []
theorem relate_maker_put_p0_fsok : FsOK Try.prog relate_maker_put_p0_fs := trivial
theorem relate_maker_put_p0_isok : IsOK Try.prog relate_maker_put_p0_is := trivial
def relate_maker_put_p0_fz : List (Nat × List Nat) := []
noncomputable def relate_maker_put_p0_ls0 : List (Nat × LCtr) := []
theorem relate_maker_put_p0_lsok0 : LsOK Try.prog Try.f168.ntmps relate_maker_put_p0_code relate_maker_put_p0_ls0 := trivial
noncomputable def relate_maker_put_p0 (x : (((List V_api_Prov) × Unit) × Int × Int × Int × Int × Unit)) : Option ((((List V_api_Prov) × Unit) × Unit) ⊕ Empty) :=
  let v1 := x.1.1 ++ [(x.2.1, x.2.2.1, x.2.2.2.1, x.2.2.2.2.1, false, ())]
  ck (roomB v1.length 46) <|
  some (.inl ((v1, ()), ()))
noncomputable def relate_maker_put_p0_L : LCtr := ⟨[0, 1, 2, 3, 4], (.cons (.ptr (.cons (.own t_api_Prov) .nil)) (.cons (.val (.int .i64)) (.cons (.val (.int .i64)) (.cons (.val (.int .i64)) (.cons (.val (.int .i64)) .nil))))), [], [], [⟨.normal, [0], (.cons (.ptr (.cons (.own t_api_Prov) .nil)) .nil), [some 0, none]⟩], [], relate_maker_put_p0⟩
noncomputable def relate_maker_put_p0_c : PI := ⟨Try.f168.ntmps, relate_maker_put_p0_code, Try.f168.results.toList, relate_maker_put_p0_L⟩
theorem relate_maker_put_p0_ok : PIOK Try.prog 168 relate_maker_put_p0_c :=
  proc_at (L := relate_maker_put_p0_L) (fz := relate_maker_put_p0_fz) relate_maker_put_p0_fsok relate_maker_put_p0_isok Try.func168 (by kernel_rfl) (by kernel_rfl) relate_maker_put_p0_lsok0 (by kernel_rfl) (fun x => by kernel_rfl)
/-! ### (*easement/relate.maker).slots: function 167, at objects -/
noncomputable def relate_maker_slots_p0_code : Code := Try.f167.body.getD .skip
noncomputable def relate_maker_slots_p0_fs : List (Nat × Ctr) := []
noncomputable def relate_maker_slots_p0_is : List (Nat × List PI) := [(168, [relate_maker_put_p0_c])]
theorem relate_maker_slots_p0_fsok : FsOK Try.prog relate_maker_slots_p0_fs := trivial
theorem relate_maker_slots_p0_isok : IsOK Try.prog relate_maker_slots_p0_is := ⟨⟨relate_maker_put_p0_ok, trivial⟩, trivial⟩
def relate_maker_slots_p0_fz : List (Nat × List Nat) := []
noncomputable def relate_maker_slots_p0_ls0 : List (Nat × LCtr) := []
theorem relate_maker_slots_p0_lsok0 : LsOK Try.prog Try.f167.ntmps relate_maker_slots_p0_code relate_maker_slots_p0_ls0 := trivial
noncomputable def relate_maker_slots_p0_j73_v (x : (((List V_api_Prov) × Unit) × (Int × Bool × Unit) × (List V_api_Slot) × Int × Int × Int × Bool × Unit)) : Option ((((List V_api_Prov) × Unit) × (Int × Bool × Unit) × Unit) ⊕ Empty) :=
  cond (x.2.2.2.2.2.2.1)
    (ck (inB x.2.2.2.2.2.1 (x.2.2.1.length)) <|
    let v1 := x.1.1 ++ [((rdL t_api_Slot x.2.2.1 x.2.2.2.2.2.1).1, x.2.1.1, x.2.2.2.1, IntKind.i64.wrap (x.2.2.2.2.1 + x.2.2.2.2.2.1), true, ())]
    ck (roomB v1.length 46) <|
    some (.inl ((v1, ()), (x.2.1.1, x.2.1.2.1, ()), ())))
    (some (.inl ((x.1.1, ()), (x.2.1.1, x.2.1.2.1, ()), ())))
noncomputable def relate_maker_slots_p0_j73 : LCtr := ⟨[0, 11, 2, 3, 4, 10, 36], (.cons (.ptr (.cons (.own t_api_Prov) .nil)) (.cons (.ptr (.cons (.val (.int .i64)) (.cons (.val .bool) .nil))) (.cons (.val (.lst t_api_Slot)) (.cons (.val (.int .i64)) (.cons (.val (.int .i64)) (.cons (.val (.int .i64)) (.cons (.val .bool) .nil))))))), [], [0, 2, 3, 4, 12, 13, 14], [⟨.normal, [0, 11], (.cons (.ptr (.cons (.own t_api_Prov) .nil)) (.cons (.ptr (.cons (.val (.int .i64)) (.cons (.val .bool) .nil))) .nil)), [some 0, none, some 2]⟩], [], relate_maker_slots_p0_j73_v⟩
noncomputable def relate_maker_slots_p0_ls1 : List (Nat × LCtr) := (655433, relate_maker_slots_p0_j73) :: relate_maker_slots_p0_ls0
theorem relate_maker_slots_p0_lsok1 : LsOK Try.prog Try.f167.ntmps relate_maker_slots_p0_code relate_maker_slots_p0_ls1 :=
  join_at (L := relate_maker_slots_p0_j73) (fz := relate_maker_slots_p0_fz) relate_maker_slots_p0_fsok relate_maker_slots_p0_isok relate_maker_slots_p0_lsok0 (by kernel_rfl) (by kernel_rfl) (fun x => by kernel_rfl)
noncomputable def relate_maker_slots_p0_l2_step (g : (((List V_api_Prov) × Unit) × (List V_api_Slot) × Int × Int × (List V_api_Slot) × Int × Int × Unit) → Option ((((List V_api_Prov) × Unit) × Unit) ⊕ Empty)) (x : (((List V_api_Prov) × Unit) × (List V_api_Slot) × Int × Int × (List V_api_Slot) × Int × Int × Unit)) : Option ((((List V_api_Prov) × Unit) × Unit) ⊕ Empty) :=
  cond (decide (x.2.2.2.2.2.2.1 < x.2.2.2.2.2.1))
    (ck (inB x.2.2.2.2.2.2.1 (x.2.2.2.2.1.length)) <|
    ck (inB x.2.2.2.2.2.2.1 (x.2.1.length)) <|
    let v1 := rdL t_api_Slot x.2.2.2.2.1 x.2.2.2.2.2.2.1
    Option.bind (relate_maker_put_p0 ((x.1.1, ()), v1.1, (rdL t_api_Slot x.2.1 x.2.2.2.2.2.2.1).1, x.2.2.1, IntKind.i64.wrap (x.2.2.2.1 + x.2.2.2.2.2.2.1), ())) fun y1 => out1 y1
      (fun z2 =>
        ck (inB x.2.2.2.2.2.2.1 (x.2.1.length)) <|
        Option.bind (relate_maker_slots_p0_j73_v ((z2.1.1, ()), (v1.1, v1.2.1, ()), x.2.1, x.2.2.1, x.2.2.2.1, x.2.2.2.2.2.2.1, (rdL t_api_Slot x.2.1 x.2.2.2.2.2.2.1).2.1, ())) fun y3 => out1 y3
          (fun z4 =>
            g ((z4.1.1, ()), x.2.1, x.2.2.1, x.2.2.2.1, x.2.2.2.2.1, x.2.2.2.2.2.1, IntKind.i64.wrap (x.2.2.2.2.2.2.1 + (1 : Int)), ()))))
    (some (.inl ((x.1.1, ()), ())))
noncomputable def relate_maker_slots_p0_l2 : LCtr := ⟨[0, 2, 3, 4, 12, 13, 14], (.cons (.ptr (.cons (.own t_api_Prov) .nil)) (.cons (.val (.lst t_api_Slot)) (.cons (.val (.int .i64)) (.cons (.val (.int .i64)) (.cons (.val (.lst t_api_Slot)) (.cons (.val (.int .i64)) (.cons (.val (.int .i64)) .nil))))))), [some 0, none], [0, 1, 2, 3, 4], [⟨(.exit 0), [0], (.cons (.ptr (.cons (.own t_api_Prov) .nil)) .nil), [some 0, none]⟩], [], lim relate_maker_slots_p0_l2_step⟩
noncomputable def relate_maker_slots_p0_ls2 : List (Nat × LCtr) := (2, relate_maker_slots_p0_l2) :: relate_maker_slots_p0_ls1
theorem relate_maker_slots_p0_lsok2 : LsOK Try.prog Try.f167.ntmps relate_maker_slots_p0_code relate_maker_slots_p0_ls2 :=
  loop_at (L := relate_maker_slots_p0_l2) (fz := relate_maker_slots_p0_fz) relate_maker_slots_p0_fsok relate_maker_slots_p0_isok relate_maker_slots_p0_lsok1 (by kernel_rfl) (by kernel_rfl) (by kernel_rfl) (step := relate_maker_slots_p0_l2_step) rfl (fun g x => by kernel_rfl)
noncomputable def relate_maker_slots_p0 (x : (((List V_api_Prov) × Unit) × (List V_api_Slot) × (List V_api_Slot) × Int × Int × Unit)) : Option ((((List V_api_Prov) × Unit) × Unit) ⊕ Empty) :=
  Option.bind (lim relate_maker_slots_p0_l2_step ((x.1.1, ()), x.2.2.1, x.2.2.2.1, x.2.2.2.2.1, x.2.1, (x.2.1.length : Int), (0 : Int), ())) fun y5 => out1 y5
    (fun z6 =>
      some (.inl ((z6.1.1, ()), ())))
noncomputable def relate_maker_slots_p0_L : LCtr := ⟨[0, 1, 2, 3, 4], (.cons (.ptr (.cons (.own t_api_Prov) .nil)) (.cons (.val (.lst t_api_Slot)) (.cons (.val (.lst t_api_Slot)) (.cons (.val (.int .i64)) (.cons (.val (.int .i64)) .nil))))), [], [], [⟨.normal, [0], (.cons (.ptr (.cons (.own t_api_Prov) .nil)) .nil), [some 0, none]⟩], [], relate_maker_slots_p0⟩
noncomputable def relate_maker_slots_p0_c : PI := ⟨Try.f167.ntmps, relate_maker_slots_p0_code, Try.f167.results.toList, relate_maker_slots_p0_L⟩
theorem relate_maker_slots_p0_ok : PIOK Try.prog 167 relate_maker_slots_p0_c :=
  proc_at (L := relate_maker_slots_p0_L) (fz := relate_maker_slots_p0_fz) relate_maker_slots_p0_fsok relate_maker_slots_p0_isok Try.func167 (by kernel_rfl) (by kernel_rfl) relate_maker_slots_p0_lsok2 (by kernel_rfl) (fun x => by kernel_rfl)
/-! ### easement/relate.Flow: function 153 -/
noncomputable def relate_Flow_code : Code := Try.f153.body.getD .skip
noncomputable def relate_Flow_fs : List (Nat × Ctr) := [(43, row_Shape_c)]
noncomputable def relate_Flow_is : List (Nat × List PI) := [(167, [relate_maker_slots_p0_c])]
theorem relate_Flow_fsok : FsOK Try.prog relate_Flow_fs := ⟨row_Shape_ok, trivial⟩
theorem relate_Flow_isok : IsOK Try.prog relate_Flow_is := ⟨⟨relate_maker_slots_p0_ok, trivial⟩, trivial⟩
def relate_Flow_fz : List (Nat × List Nat) := []
noncomputable def relate_Flow_ls0 : List (Nat × LCtr) := []
theorem relate_Flow_lsok0 : LsOK Try.prog Try.f153.ntmps relate_Flow_code relate_Flow_ls0 := trivial
noncomputable def relate_Flow (x : (V_api_Type × V_api_Type × Int × Int × Unit)) : Option ((List V_api_Prov) × Int × Unit) :=
  Option.bind (row_Shape ((x.1.1, ()), (x.2.1.1, ()), ())) fun y1 =>
  cond (!y1.1)
    (some (([] : List V_api_Prov), (8 : Int), ()))
    (Option.bind (relate_maker_slots_p0 ((([] : List V_api_Prov), ()), x.1.1, x.2.1.1, x.2.2.1, x.2.2.2.1, ())) fun y2 => out1 y2
      (fun z3 =>
        some (z3.1.1, (0 : Int), ())))
noncomputable def relate_Flow_c : Ctr := ⟨(.cons t_api_Type (.cons t_api_Type (.cons (.int .i64) (.cons (.int .i64) .nil)))), (.cons (.lst t_api_Prov) (.cons (.int .i64) .nil)), relate_Flow, none⟩
theorem relate_Flow_ok : CtrOK Try.prog 153 relate_Flow_c :=
  fun_at (fz := relate_Flow_fz) relate_Flow_fsok relate_Flow_isok Try.func153 (by kernel_rfl) (c := relate_Flow_code) (by kernel_rfl) relate_Flow_lsok0 (by kernel_rfl) (fun x => by kernel_rfl)
/-! ### easement/row.Ref: function 28 -/
noncomputable def row_Ref_code : Code := Try.f28.body.getD .skip
noncomputable def row_Ref_fs : List (Nat × Ctr) := []
noncomputable def row_Ref_is : List (Nat × List PI) := []
theorem row_Ref_fsok : FsOK Try.prog row_Ref_fs := trivial
theorem row_Ref_isok : IsOK Try.prog row_Ref_is := trivial
def row_Ref_fz : List (Nat × List Nat) := []
noncomputable def row_Ref_ls0 : List (Nat × LCtr) := []
theorem row_Ref_lsok0 : LsOK Try.prog Try.f28.ntmps row_Ref_code row_Ref_ls0 := trivial
noncomputable def row_Ref_l6_step (g : (((List V_api_Slot) × Unit) × Bool × (List V_api_Slot) × Int × Int × Unit) → Option ((((List V_api_Slot) × Unit) × Unit) ⊕ Empty)) (x : (((List V_api_Slot) × Unit) × Bool × (List V_api_Slot) × Int × Int × Unit)) : Option ((((List V_api_Slot) × Unit) × Unit) ⊕ Empty) :=
  cond (decide (x.2.2.2.2.1 < x.2.2.2.1))
    (ck (inB x.2.2.2.2.1 (x.2.2.1.length)) <|
    let v1 := rdL t_api_Slot x.2.2.1 x.2.2.2.2.1
    let v2 := x.1.1 ++ [(v1.1, cond v1.2.1 true x.2.1, ())]
    ck (roomB v2.length 19) <|
    g ((v2, ()), x.2.1, x.2.2.1, x.2.2.2.1, IntKind.i64.wrap (x.2.2.2.2.1 + (1 : Int)), ()))
    (some (.inl ((x.1.1, ()), ())))
noncomputable def row_Ref_l6 : LCtr := ⟨[7, 2, 15, 16, 17], (.cons (.ptr (.cons (.own t_api_Slot) .nil)) (.cons (.val .bool) (.cons (.val (.lst t_api_Slot)) (.cons (.val (.int .i64)) (.cons (.val (.int .i64)) .nil))))), [some 0, none], [6, 7], [⟨(.exit 0), [7], (.cons (.ptr (.cons (.own t_api_Slot) .nil)) .nil), [some 0, none]⟩], [], lim row_Ref_l6_step⟩
noncomputable def row_Ref_ls1 : List (Nat × LCtr) := (6, row_Ref_l6) :: row_Ref_ls0
theorem row_Ref_lsok1 : LsOK Try.prog Try.f28.ntmps row_Ref_code row_Ref_ls1 :=
  loop_at (L := row_Ref_l6) (fz := row_Ref_fz) row_Ref_fsok row_Ref_isok row_Ref_lsok0 (by kernel_rfl) (by kernel_rfl) (by kernel_rfl) (step := row_Ref_l6_step) rfl (fun g x => by kernel_rfl)
noncomputable def row_Ref (x : (V_api_Type × Int × Bool × Unit)) : Option (V_api_Type × Unit) :=
  Option.bind (lim row_Ref_l6_step (([(x.2.1, false, ())], ()), x.2.2.1, x.1.1, (x.1.1.length : Int), (0 : Int), ())) fun y1 => out1 y1
    (fun z2 =>
      some ((z2.1.1, ()), ()))
noncomputable def row_Ref_c : Ctr := ⟨(.cons t_api_Type (.cons (.int .i64) (.cons .bool .nil))), (.cons t_api_Type .nil), row_Ref, none⟩
theorem row_Ref_ok : CtrOK Try.prog 28 row_Ref_c :=
  fun_at (fz := row_Ref_fz) row_Ref_fsok row_Ref_isok Try.func28 (by kernel_rfl) (c := row_Ref_code) (by kernel_rfl) row_Ref_lsok1 (by kernel_rfl) (fun x => by kernel_rfl)
/-! ### easement/relate.Loan: function 154 -/
noncomputable def relate_Loan_code : Code := Try.f154.body.getD .skip
noncomputable def relate_Loan_fs : List (Nat × Ctr) := [(28, row_Ref_c), (43, row_Shape_c)]
noncomputable def relate_Loan_is : List (Nat × List PI) := [(168, [relate_maker_put_p0_c]), (167, [relate_maker_slots_p0_c])]
theorem relate_Loan_fsok : FsOK Try.prog relate_Loan_fs := ⟨row_Ref_ok, row_Shape_ok, trivial⟩
theorem relate_Loan_isok : IsOK Try.prog relate_Loan_is := ⟨⟨relate_maker_put_p0_ok, trivial⟩, ⟨relate_maker_slots_p0_ok, trivial⟩, trivial⟩
def relate_Loan_fz : List (Nat × List Nat) := []
noncomputable def relate_Loan_ls0 : List (Nat × LCtr) := []
theorem relate_Loan_lsok0 : LsOK Try.prog Try.f154.ntmps relate_Loan_code relate_Loan_ls0 := trivial
noncomputable def relate_Loan (x : (V_api_Type × V_api_Type × Int × Bool × Unit)) : Option ((List V_api_Prov) × Int × Unit) :=
  Option.bind (row_Ref ((x.1.1, ()), x.2.2.1, x.2.2.2.1, ())) fun y1 =>
  Option.bind (row_Shape (y1.1, (x.2.1.1, ()), ())) fun y2 =>
  cond (!y2.1)
    (some (([] : List V_api_Prov), (8 : Int), ()))
    (ck (inB (0 : Int) (x.2.1.1.length)) <|
    Option.bind (relate_maker_put_p0 ((([] : List V_api_Prov), ()), x.2.2.1, (rdL t_api_Slot x.2.1.1 (0 : Int)).1, (2 : Int), (0 : Int), ())) fun y3 => out1 y3
      (fun z4 =>
        ck (decide (0 ≤ (1 : Int)) && decide ((1 : Int) ≤ x.2.1.1.length)) <|
        Option.bind (relate_maker_slots_p0 ((z4.1.1, ()), x.1.1, x.2.1.1.drop (1 : Int).toNat, (1 : Int), (1 : Int), ())) fun y5 => out1 y5
          (fun z6 =>
            some (z6.1.1, (0 : Int), ()))))
noncomputable def relate_Loan_c : Ctr := ⟨(.cons t_api_Type (.cons t_api_Type (.cons (.int .i64) (.cons .bool .nil)))), (.cons (.lst t_api_Prov) (.cons (.int .i64) .nil)), relate_Loan, none⟩
theorem relate_Loan_ok : CtrOK Try.prog 154 relate_Loan_c :=
  fun_at (fz := relate_Loan_fz) relate_Loan_fsok relate_Loan_isok Try.func154 (by kernel_rfl) (c := relate_Loan_code) (by kernel_rfl) relate_Loan_lsok0 (by kernel_rfl) (fun x => by kernel_rfl)
/-! ### slices.Clone[[]easement/api.Slot,easement/api.Slot]: function 80 -/
noncomputable def slices_Clone_80_code : Code := Try.f80.body.getD .skip
noncomputable def slices_Clone_80_fs : List (Nat × Ctr) := []
noncomputable def slices_Clone_80_is : List (Nat × List PI) := []
theorem slices_Clone_80_fsok : FsOK Try.prog slices_Clone_80_fs := trivial
theorem slices_Clone_80_isok : IsOK Try.prog slices_Clone_80_is := trivial
def slices_Clone_80_fz : List (Nat × List Nat) := []
noncomputable def slices_Clone_80_ls0 : List (Nat × LCtr) := []
theorem slices_Clone_80_lsok0 : LsOK Try.prog Try.f80.ntmps slices_Clone_80_code slices_Clone_80_ls0 := trivial
noncomputable def slices_Clone_80 (x : ((List V_api_Slot) × Unit)) : Option ((List V_api_Slot) × Unit) :=
  cond (x.1.isEmpty) (agree
    (some (([] : List V_api_Slot), ()))
    (let v1 := ([] : List V_api_Slot) ++ x.1
    ck (roomB v1.length 19) <|
    some (v1, ())))
    (let v1 := ([] : List V_api_Slot) ++ x.1
    ck (roomB v1.length 19) <|
    some (v1, ()))
noncomputable def slices_Clone_80_c : Ctr := ⟨(.cons (.lst t_api_Slot) .nil), (.cons (.lst t_api_Slot) .nil), slices_Clone_80, none⟩
theorem slices_Clone_80_ok : CtrOK Try.prog 80 slices_Clone_80_c :=
  fun_at (fz := slices_Clone_80_fz) slices_Clone_80_fsok slices_Clone_80_isok Try.func80 (by kernel_rfl) (c := slices_Clone_80_code) (by kernel_rfl) slices_Clone_80_lsok0 (by kernel_rfl) (fun x => by kernel_rfl)
/-! ### easement/row.Deref: function 25 -/
noncomputable def row_Deref_code : Code := Try.f25.body.getD .skip
noncomputable def row_Deref_fs : List (Nat × Ctr) := [(80, slices_Clone_80_c)]
noncomputable def row_Deref_is : List (Nat × List PI) := []
theorem row_Deref_fsok : FsOK Try.prog row_Deref_fs := ⟨slices_Clone_80_ok, trivial⟩
theorem row_Deref_isok : IsOK Try.prog row_Deref_is := trivial
def row_Deref_fz : List (Nat × List Nat) := []
noncomputable def row_Deref_ls0 : List (Nat × LCtr) := []
theorem row_Deref_lsok0 : LsOK Try.prog Try.f25.ntmps row_Deref_code row_Deref_ls0 := trivial
noncomputable def row_Deref (x : (V_api_Type × Unit)) : Option (V_api_Type × Int × Bool × Unit) :=
  let v1 := (x.1.1.length : Int) == (0 : Int)
  ck ((inB (0 : Int) (x.1.1.length)) || !(!v1)) <|
  cond (cond v1 true (rdL t_api_Slot x.1.1 (0 : Int)).2.1)
    (some ((([] : List V_api_Slot), ()), (0 : Int), false, ()))
    (ck (decide (0 ≤ (1 : Int)) && decide ((1 : Int) ≤ x.1.1.length)) <|
    Option.bind (slices_Clone_80 (x.1.1.drop (1 : Int).toNat, ())) fun y1 =>
    ck (inB (0 : Int) (x.1.1.length)) <|
    some ((y1.1, ()), (rdL t_api_Slot x.1.1 (0 : Int)).1, true, ()))
noncomputable def row_Deref_c : Ctr := ⟨(.cons t_api_Type .nil), (.cons t_api_Type (.cons (.int .i64) (.cons .bool .nil))), row_Deref, none⟩
theorem row_Deref_ok : CtrOK Try.prog 25 row_Deref_c :=
  fun_at (fz := row_Deref_fz) row_Deref_fsok row_Deref_isok Try.func25 (by kernel_rfl) (c := row_Deref_code) (by kernel_rfl) row_Deref_lsok0 (by kernel_rfl) (fun x => by kernel_rfl)
/-! ### easement/relate.Again: function 155 -/
noncomputable def relate_Again_code : Code := Try.f155.body.getD .skip
noncomputable def relate_Again_fs : List (Nat × Ctr) := [(25, row_Deref_c), (43, row_Shape_c)]
noncomputable def relate_Again_is : List (Nat × List PI) := [(168, [relate_maker_put_p0_c]), (167, [relate_maker_slots_p0_c])]
theorem relate_Again_fsok : FsOK Try.prog relate_Again_fs := ⟨row_Deref_ok, row_Shape_ok, trivial⟩
theorem relate_Again_isok : IsOK Try.prog relate_Again_is := ⟨⟨relate_maker_put_p0_ok, trivial⟩, ⟨relate_maker_slots_p0_ok, trivial⟩, trivial⟩
def relate_Again_fz : List (Nat × List Nat) := []
noncomputable def relate_Again_ls0 : List (Nat × LCtr) := []
theorem relate_Again_lsok0 : LsOK Try.prog Try.f155.ntmps relate_Again_code relate_Again_ls0 := trivial
noncomputable def relate_Again_l12_step (g : (Bool × (List V_api_Slot) × Int × Int × Unit) → Option (((List V_api_Prov) × Int × Unit) ⊕ (Unit ⊕ Empty))) (x : (Bool × (List V_api_Slot) × Int × Int × Unit)) : Option (((List V_api_Prov) × Int × Unit) ⊕ (Unit ⊕ Empty)) :=
  cond (decide (x.2.2.2.1 < x.2.2.1))
    (ck (inB x.2.2.2.1 (x.2.1.length)) <|
    cond (cond x.1 (!(rdL t_api_Slot x.2.1 x.2.2.2.1).2.1) false)
      (some (.inl (([] : List V_api_Prov), (8 : Int), ())))
      (g (x.1, x.2.1, x.2.2.1, IntKind.i64.wrap (x.2.2.2.1 + (1 : Int)), ())))
    (some (.inr (.inl ())))
noncomputable def relate_Again_l12 : LCtr := ⟨[3, 44, 45, 46], (.cons (.val .bool) (.cons (.val (.lst t_api_Slot)) (.cons (.val (.int .i64)) (.cons (.val (.int .i64)) .nil)))), [], [2, 5, 10, 11], [⟨.ret, [8, 9], (.cons (.own t_api_Prov) (.cons (.val (.int .i64)) .nil)), [none]⟩, ⟨(.exit 0), [], .nil, []⟩], [], lim relate_Again_l12_step⟩
noncomputable def relate_Again_ls1 : List (Nat × LCtr) := (12, relate_Again_l12) :: relate_Again_ls0
theorem relate_Again_lsok1 : LsOK Try.prog Try.f155.ntmps relate_Again_code relate_Again_ls1 :=
  loop_at (L := relate_Again_l12) (fz := relate_Again_fz) relate_Again_fsok relate_Again_isok relate_Again_lsok0 (by kernel_rfl) (by kernel_rfl) (by kernel_rfl) (step := relate_Again_l12_step) rfl (fun g x => by kernel_rfl)
noncomputable def relate_Again (x : (V_api_Type × V_api_Type × Int × Bool × Unit)) : Option ((List V_api_Prov) × Int × Unit) :=
  Option.bind (row_Deref ((x.1.1, ()), ())) fun y1 =>
  Option.bind (row_Deref ((x.2.1.1, ()), ())) fun y2 =>
  cond (!(cond (!y1.2.2.1) true (!y2.2.2.1)))
    (Option.bind (row_Shape ((x.1.1, ()), (x.2.1.1, ()), ())) fun y3 =>
    cond (!y3.1)
      (some (([] : List V_api_Prov), (8 : Int), ()))
      (Option.bind (lim relate_Again_l12_step (x.2.2.2.1, y1.1.1, (y1.1.1.length : Int), (0 : Int), ())) fun y4 => out2 y4
        (fun z5 =>
          some (z5.1, z5.2.1, ()))
        (fun z6 =>
          Option.bind (relate_maker_put_p0 ((([] : List V_api_Prov), ()), y1.2.1, x.2.2.1, (3 : Int), (0 : Int), ())) fun y7 => out1 y7
            (fun z8 =>
              ck (inB (0 : Int) (x.2.1.1.length)) <|
              Option.bind (relate_maker_put_p0 ((z8.1.1, ()), x.2.2.1, (rdL t_api_Slot x.2.1.1 (0 : Int)).1, (2 : Int), (0 : Int), ())) fun y9 => out1 y9
                (fun z10 =>
                  ck (decide (0 ≤ (1 : Int)) && decide ((1 : Int) ≤ x.2.1.1.length)) <|
                  Option.bind (relate_maker_slots_p0 ((z10.1.1, ()), y1.1.1, x.2.1.1.drop (1 : Int).toNat, (1 : Int), (1 : Int), ())) fun y11 => out1 y11
                    (fun z12 =>
                      some (z12.1.1, (0 : Int), ())))))))
    (some (([] : List V_api_Prov), (8 : Int), ()))
noncomputable def relate_Again_c : Ctr := ⟨(.cons t_api_Type (.cons t_api_Type (.cons (.int .i64) (.cons .bool .nil)))), (.cons (.lst t_api_Prov) (.cons (.int .i64) .nil)), relate_Again, none⟩
theorem relate_Again_ok : CtrOK Try.prog 155 relate_Again_c :=
  fun_at (fz := relate_Again_fz) relate_Again_fsok relate_Again_isok Try.func155 (by kernel_rfl) (c := relate_Again_code) (by kernel_rfl) relate_Again_lsok1 (by kernel_rfl) (fun x => by kernel_rfl)
/-! ### easement/stmt.needs: function 125 -/
noncomputable def stmt_needs_code : Code := Try.f125.body.getD .skip
noncomputable def stmt_needs_fs : List (Nat × Ctr) := [(153, relate_Flow_c), (154, relate_Loan_c), (155, relate_Again_c)]
noncomputable def stmt_needs_is : List (Nat × List PI) := []
theorem stmt_needs_fsok : FsOK Try.prog stmt_needs_fs := ⟨relate_Flow_ok, relate_Loan_ok, relate_Again_ok, trivial⟩
theorem stmt_needs_isok : IsOK Try.prog stmt_needs_is := trivial
def stmt_needs_fz : List (Nat × List Nat) := []
noncomputable def stmt_needs_ls0 : List (Nat × LCtr) := []
theorem stmt_needs_lsok0 : LsOK Try.prog Try.f125.ntmps stmt_needs_code stmt_needs_ls0 := trivial
noncomputable def stmt_needs (x : (V_api_Prov × (List V_api_Type) × Unit)) : Option ((List V_api_Prov) × Int × Unit) :=
  cond (x.1.1 == (1 : Int))
    (ck (inB x.1.2.2.1 (x.2.1.length)) <|
    ck (inB x.1.2.1 (x.2.1.length)) <|
    Option.bind (relate_Flow (((rdL t_api_Type x.2.1 x.1.2.2.1).1, ()), ((rdL t_api_Type x.2.1 x.1.2.1).1, ()), (1 : Int), (0 : Int), ())) fun y1 =>
    some (y1.1, y1.2.1, ()))
    (cond (x.1.1 == (2 : Int))
      (ck (inB x.1.2.2.1 (x.2.1.length)) <|
      ck (inB x.1.2.1 (x.2.1.length)) <|
      Option.bind (relate_Loan (((rdL t_api_Type x.2.1 x.1.2.2.1).1, ()), ((rdL t_api_Type x.2.1 x.1.2.1).1, ()), x.1.2.2.2.1, x.1.2.2.2.2.1, ())) fun y2 =>
      some (y2.1, y2.2.1, ()))
      (cond (x.1.1 == (3 : Int))
        (ck (inB x.1.2.2.1 (x.2.1.length)) <|
        ck (inB x.1.2.1 (x.2.1.length)) <|
        Option.bind (relate_Again (((rdL t_api_Type x.2.1 x.1.2.2.1).1, ()), ((rdL t_api_Type x.2.1 x.1.2.1).1, ()), x.1.2.2.2.1, x.1.2.2.2.2.1, ())) fun y3 =>
        some (y3.1, y3.2.1, ()))
        (some (([] : List V_api_Prov), (0 : Int), ()))))
noncomputable def stmt_needs_c : Ctr := ⟨(.cons t_api_Prov (.cons (.lst t_api_Type) .nil)), (.cons (.lst t_api_Prov) (.cons (.int .i64) .nil)), stmt_needs, none⟩
theorem stmt_needs_ok : CtrOK Try.prog 125 stmt_needs_c :=
  fun_at (fz := stmt_needs_fz) stmt_needs_fsok stmt_needs_isok Try.func125 (by kernel_rfl) (c := stmt_needs_code) (by kernel_rfl) stmt_needs_lsok0 (by kernel_rfl) (fun x => by kernel_rfl)
/-! ### easement/stmt.Check: function 113 -/
noncomputable def stmt_Check_code : Code := Try.f113.body.getD .skip
noncomputable def stmt_Check_fs : List (Nat × Ctr) := [(124, stmt_form_c), (125, stmt_needs_c)]
noncomputable def stmt_Check_is : List (Nat × List PI) := []
theorem stmt_Check_fsok : FsOK Try.prog stmt_Check_fs := ⟨stmt_form_ok, stmt_needs_ok, trivial⟩
theorem stmt_Check_isok : IsOK Try.prog stmt_Check_is := trivial
def stmt_Check_fz : List (Nat × List Nat) := []
noncomputable def stmt_Check_ls0 : List (Nat × LCtr) := []
theorem stmt_Check_lsok0 : LsOK Try.prog Try.f113.ntmps stmt_Check_code stmt_Check_ls0 := trivial
noncomputable def stmt_Check_j39x_v (x : ((Int × Int × Int × Int × Bool × Unit) × (Bool × Bool × Bool × Unit) × Int × Bool × Unit)) : Option ((Bool × (Int × Int × Int × Int × Bool × Unit) × (Bool × Bool × Bool × Unit) × Unit) ⊕ Empty) :=
  cond (x.2.2.2.1)
    (some (.inl (x.2.2.2.1, (x.1.1, x.1.2.1, x.1.2.2.1, x.1.2.2.2.1, x.1.2.2.2.2.1, ()), (x.2.1.1, x.2.1.2.1, x.2.1.2.2.1, ()), ())))
    (some (.inl (cond x.2.1.2.2.1 (cond (decide (x.1.2.2.2.1 < (0 : Int))) true (decide (x.1.2.2.2.1 ≥ x.2.2.1))) false, (x.1.1, x.1.2.1, x.1.2.2.1, x.1.2.2.2.1, x.1.2.2.2.2.1, ()), (x.2.1.1, x.2.1.2.1, x.2.1.2.2.1, ()), ())))
noncomputable def stmt_Check_j39x : LCtr := ⟨[3, 7, 2, 19], (.cons (.ptr (.cons (.val (.int .i64)) (.cons (.val (.int .i64)) (.cons (.val (.int .i64)) (.cons (.val (.int .i64)) (.cons (.val .bool) .nil)))))) (.cons (.ptr (.cons (.val .bool) (.cons (.val .bool) (.cons (.val .bool) .nil)))) (.cons (.val (.int .i64)) (.cons (.val .bool) .nil)))), [], [1, 3], [⟨.normal, [19, 3, 7], (.cons (.val .bool) (.cons (.ptr (.cons (.val (.int .i64)) (.cons (.val (.int .i64)) (.cons (.val (.int .i64)) (.cons (.val (.int .i64)) (.cons (.val .bool) .nil)))))) (.cons (.ptr (.cons (.val .bool) (.cons (.val .bool) (.cons (.val .bool) .nil)))) .nil))), [some 0, some 1]⟩], [], stmt_Check_j39x_v⟩
noncomputable def stmt_Check_ls1 : List (Nat × LCtr) := (51539607591, stmt_Check_j39x) :: stmt_Check_ls0
theorem stmt_Check_lsok1 : LsOK Try.prog Try.f113.ntmps stmt_Check_code stmt_Check_ls1 :=
  join_at (L := stmt_Check_j39x) (fz := stmt_Check_fz) stmt_Check_fsok stmt_Check_isok stmt_Check_lsok0 (by kernel_rfl) (by kernel_rfl) (fun x => by kernel_rfl)
noncomputable def stmt_Check_j39_v (x : ((Int × Int × Int × Int × Bool × Unit) × (Bool × Bool × Bool × Unit) × (List V_api_Type) × Int × Bool × Unit)) : Option ((Bool × (Int × Int × Int × Int × Bool × Unit) × (Bool × Bool × Bool × Unit) × Unit) ⊕ Empty) :=
  cond (x.2.2.2.2.1)
    (some (.inl (x.2.2.2.2.1, (x.1.1, x.1.2.1, x.1.2.2.1, x.1.2.2.2.1, x.1.2.2.2.2.1, ()), (x.2.1.1, x.2.1.2.1, x.2.1.2.2.1, ()), ())))
    (Option.bind (stmt_Check_j39x_v ((x.1.1, x.1.2.1, x.1.2.2.1, x.1.2.2.2.1, x.1.2.2.2.2.1, ()), (x.2.1.1, x.2.1.2.1, x.2.1.2.2.1, ()), x.2.2.2.1, cond x.2.1.2.1 (cond (decide (x.1.2.2.1 < (0 : Int))) true (decide (x.1.2.2.1 ≥ (x.2.2.1.length : Int)))) false, ())) fun y2 => out1 y2
      (fun z3 =>
        some (.inl (z3.1, (z3.2.1.1, z3.2.1.2.1, z3.2.1.2.2.1, z3.2.1.2.2.2.1, z3.2.1.2.2.2.2.1, ()), (z3.2.2.1.1, z3.2.2.1.2.1, z3.2.2.1.2.2.1, ()), ()))))
noncomputable def stmt_Check_j39 : LCtr := ⟨[3, 7, 1, 2, 19], (.cons (.ptr (.cons (.val (.int .i64)) (.cons (.val (.int .i64)) (.cons (.val (.int .i64)) (.cons (.val (.int .i64)) (.cons (.val .bool) .nil)))))) (.cons (.ptr (.cons (.val .bool) (.cons (.val .bool) (.cons (.val .bool) .nil)))) (.cons (.val (.lst t_api_Type)) (.cons (.val (.int .i64)) (.cons (.val .bool) .nil))))), [], [1, 3], [⟨.normal, [19, 3, 7], (.cons (.val .bool) (.cons (.ptr (.cons (.val (.int .i64)) (.cons (.val (.int .i64)) (.cons (.val (.int .i64)) (.cons (.val (.int .i64)) (.cons (.val .bool) .nil)))))) (.cons (.ptr (.cons (.val .bool) (.cons (.val .bool) (.cons (.val .bool) .nil)))) .nil))), [some 0, some 1]⟩], [], stmt_Check_j39_v⟩
noncomputable def stmt_Check_ls2 : List (Nat × LCtr) := (42949672999, stmt_Check_j39) :: stmt_Check_ls1
theorem stmt_Check_lsok2 : LsOK Try.prog Try.f113.ntmps stmt_Check_code stmt_Check_ls2 :=
  join_at (L := stmt_Check_j39) (fz := stmt_Check_fz) stmt_Check_fsok stmt_Check_isok stmt_Check_lsok1 (by kernel_rfl) (by kernel_rfl) (fun x => by kernel_rfl)
noncomputable def stmt_Check (x : (V_api_Prov × (List V_api_Type) × Int × Unit)) : Option (Int × Unit) :=
  Option.bind (stmt_form ((x.1.1, x.1.2.1, x.1.2.2.1, x.1.2.2.2.1, x.1.2.2.2.2.1, ()), ())) fun y1 =>
  cond (!y1.2.1)
    (some ((3 : Int), ()))
    (Option.bind (stmt_Check_j39_v ((x.1.1, x.1.2.1, x.1.2.2.1, x.1.2.2.2.1, x.1.2.2.2.2.1, ()), (y1.1.1, y1.1.2.1, y1.1.2.2.1, ()), x.2.1, x.2.2.1, cond y1.1.1 (cond (decide (x.1.2.1 < (0 : Int))) true (decide (x.1.2.1 ≥ (x.2.1.length : Int)))) false, ())) fun y4 => out1 y4
      (fun z5 =>
        cond (z5.1)
          (some ((7 : Int), ()))
          (Option.bind (stmt_needs ((z5.2.1.1, z5.2.1.2.1, z5.2.1.2.2.1, z5.2.1.2.2.2.1, z5.2.1.2.2.2.2.1, ()), x.2.1, ())) fun y6 =>
          some (y6.2.1, ()))))
noncomputable def stmt_Check_c : Ctr := ⟨(.cons t_api_Prov (.cons (.lst t_api_Type) (.cons (.int .i64) .nil))), (.cons (.int .i64) .nil), stmt_Check, none⟩
theorem stmt_Check_ok : CtrOK Try.prog 113 stmt_Check_c :=
  fun_at (fz := stmt_Check_fz) stmt_Check_fsok stmt_Check_isok Try.func113 (by kernel_rfl) (c := stmt_Check_code) (by kernel_rfl) stmt_Check_lsok2 (by kernel_rfl) (fun x => by kernel_rfl)
/-! ### easement/term.form: function 126 -/
noncomputable def term_form_code : Code := Try.f126.body.getD .skip
noncomputable def term_form_fs : List (Nat × Ctr) := []
noncomputable def term_form_is : List (Nat × List PI) := []
theorem term_form_fsok : FsOK Try.prog term_form_fs := trivial
theorem term_form_isok : IsOK Try.prog term_form_is := trivial
def term_form_fz : List (Nat × List Nat) := []
noncomputable def term_form_ls0 : List (Nat × LCtr) := []
theorem term_form_lsok0 : LsOK Try.prog Try.f126.ntmps term_form_code term_form_ls0 := trivial
noncomputable def term_form_j21_v (x : (Int × Bool × Unit)) : Option ((Bool × Unit) ⊕ Empty) :=
  cond (x.2.1)
    (some (.inl (x.2.1, ())))
    (some (.inl (x.1 == (4 : Int), ())))
noncomputable def term_form_j21 : LCtr := ⟨[9, 10], (.cons (.val (.int .i64)) (.cons (.val .bool) .nil)), [], [1, 3, 4, 9], [⟨.normal, [10], (.cons (.val .bool) .nil), []⟩], [], term_form_j21_v⟩
noncomputable def term_form_ls1 : List (Nat × LCtr) := (51539607573, term_form_j21) :: term_form_ls0
theorem term_form_lsok1 : LsOK Try.prog Try.f126.ntmps term_form_code term_form_ls1 :=
  join_at (L := term_form_j21) (fz := term_form_fz) term_form_fsok term_form_isok term_form_lsok0 (by kernel_rfl) (by kernel_rfl) (fun x => by kernel_rfl)
noncomputable def term_form_j27_v (x : ((Int × Int × Int × (List Int) × (List Int) × (List Int) × Unit) × Int × Bool × Unit)) : Option ((Int × (Int × Int × Int × (List Int) × (List Int) × (List Int) × Unit) × Unit) ⊕ ((Int × (Int × Int × Int × (List Int) × (List Int) × (List Int) × Unit) × Unit) ⊕ Empty)) :=
  cond (x.2.2.1)
    (some (.inl (maxI (1 : Int) (x.1.2.2.2.1.length : Int), (x.1.1, x.1.2.1, x.1.2.2.1, x.1.2.2.2.1, x.1.2.2.2.2.1, x.1.2.2.2.2.2.1, ()), ())))
    (cond (x.2.1 == (3 : Int))
      (some (.inl ((0 : Int), (x.1.1, x.1.2.1, x.1.2.2.1, x.1.2.2.2.1, x.1.2.2.2.2.1, x.1.2.2.2.2.2.1, ()), ())))
      (some (.inr (.inl ((3 : Int), (x.1.1, x.1.2.1, x.1.2.2.1, x.1.2.2.2.1, x.1.2.2.2.2.1, x.1.2.2.2.2.2.1, ()), ())))))
noncomputable def term_form_j27 : LCtr := ⟨[1, 9, 13], (.cons (.ptr (.cons (.val (.int .i64)) (.cons (.val (.int .i64)) (.cons (.val (.int .i64)) (.cons (.val (.lst (.int .i64))) (.cons (.val (.lst (.int .i64))) (.cons (.val (.lst (.int .i64))) .nil))))))) (.cons (.val (.int .i64)) (.cons (.val .bool) .nil))), [], [1], [⟨.normal, [4, 1], (.cons (.val (.int .i64)) (.cons (.ptr (.cons (.val (.int .i64)) (.cons (.val (.int .i64)) (.cons (.val (.int .i64)) (.cons (.val (.lst (.int .i64))) (.cons (.val (.lst (.int .i64))) (.cons (.val (.lst (.int .i64))) .nil))))))) .nil)), [some 0]⟩, ⟨.ret, [2, 1], (.cons (.val (.int .i64)) (.cons (.ptr (.cons (.val (.int .i64)) (.cons (.val (.int .i64)) (.cons (.val (.int .i64)) (.cons (.val (.lst (.int .i64))) (.cons (.val (.lst (.int .i64))) (.cons (.val (.lst (.int .i64))) .nil))))))) .nil)), [some 0]⟩], [], term_form_j27_v⟩
noncomputable def term_form_ls2 : List (Nat × LCtr) := (77310459931, term_form_j27) :: term_form_ls1
theorem term_form_lsok2 : LsOK Try.prog Try.f126.ntmps term_form_code term_form_ls2 :=
  join_at (L := term_form_j27) (fz := term_form_fz) term_form_fsok term_form_isok term_form_lsok1 (by kernel_rfl) (by kernel_rfl) (fun x => by kernel_rfl)
noncomputable def term_form_j21x_v (x : ((Int × Int × Int × (List Int) × (List Int) × (List Int) × Unit) × Int × Int × Bool × Unit)) : Option ((Int × (Int × Int × Int × (List Int) × (List Int) × (List Int) × Unit) × Unit) ⊕ ((Int × (Int × Int × Int × (List Int) × (List Int) × (List Int) × Unit) × Unit) ⊕ Empty)) :=
  cond (x.2.2.2.1)
    (some (.inl (x.2.1, (x.1.1, x.1.2.1, x.1.2.2.1, x.1.2.2.2.1, x.1.2.2.2.2.1, x.1.2.2.2.2.2.1, ()), ())))
    (Option.bind (term_form_j27_v ((x.1.1, x.1.2.1, x.1.2.2.1, x.1.2.2.2.1, x.1.2.2.2.2.1, x.1.2.2.2.2.2.1, ()), x.2.2.1, x.2.2.1 == (2 : Int), ())) fun y3 => out2 y3
      (fun z4 =>
        some (.inl (z4.1, (z4.2.1.1, z4.2.1.2.1, z4.2.1.2.2.1, z4.2.1.2.2.2.1, z4.2.1.2.2.2.2.1, z4.2.1.2.2.2.2.2.1, ()), ())))
      (fun z5 =>
        some (.inr (.inl (z5.1, (z5.2.1.1, z5.2.1.2.1, z5.2.1.2.2.1, z5.2.1.2.2.2.1, z5.2.1.2.2.2.2.1, z5.2.1.2.2.2.2.2.1, ()), ())))))
noncomputable def term_form_j21x : LCtr := ⟨[1, 4, 9, 10], (.cons (.ptr (.cons (.val (.int .i64)) (.cons (.val (.int .i64)) (.cons (.val (.int .i64)) (.cons (.val (.lst (.int .i64))) (.cons (.val (.lst (.int .i64))) (.cons (.val (.lst (.int .i64))) .nil))))))) (.cons (.val (.int .i64)) (.cons (.val (.int .i64)) (.cons (.val .bool) .nil)))), [], [1, 3], [⟨.normal, [4, 1], (.cons (.val (.int .i64)) (.cons (.ptr (.cons (.val (.int .i64)) (.cons (.val (.int .i64)) (.cons (.val (.int .i64)) (.cons (.val (.lst (.int .i64))) (.cons (.val (.lst (.int .i64))) (.cons (.val (.lst (.int .i64))) .nil))))))) .nil)), [some 0]⟩, ⟨.ret, [2, 1], (.cons (.val (.int .i64)) (.cons (.ptr (.cons (.val (.int .i64)) (.cons (.val (.int .i64)) (.cons (.val (.int .i64)) (.cons (.val (.lst (.int .i64))) (.cons (.val (.lst (.int .i64))) (.cons (.val (.lst (.int .i64))) .nil))))))) .nil)), [some 0]⟩], [], term_form_j21x_v⟩
noncomputable def term_form_ls3 : List (Nat × LCtr) := (60129542165, term_form_j21x) :: term_form_ls2
theorem term_form_lsok3 : LsOK Try.prog Try.f126.ntmps term_form_code term_form_ls3 :=
  join_at (L := term_form_j21x) (fz := term_form_fz) term_form_fsok term_form_isok term_form_lsok2 (by kernel_rfl) (by kernel_rfl) (fun x => by kernel_rfl)
noncomputable def term_form_j43x_v (x : ((Int × Int × Int × (List Int) × (List Int) × (List Int) × Unit) × Bool × Bool × Unit)) : Option ((Bool × (Int × Int × Int × (List Int) × (List Int) × (List Int) × Unit) × Unit) ⊕ Empty) :=
  cond (x.2.2.1)
    (some (.inl (x.2.2.1, (x.1.1, x.1.2.1, x.1.2.2.1, x.1.2.2.2.1, x.1.2.2.2.2.1, x.1.2.2.2.2.2.1, ()), ())))
    (some (.inl (cond (cond (!x.2.1) (x.1.1 != (2 : Int)) false) (decide ((x.1.2.2.2.2.1.length : Int) > (0 : Int))) false, (x.1.1, x.1.2.1, x.1.2.2.1, x.1.2.2.2.1, x.1.2.2.2.2.1, x.1.2.2.2.2.2.1, ()), ())))
noncomputable def term_form_j43x : LCtr := ⟨[1, 3, 21], (.cons (.ptr (.cons (.val (.int .i64)) (.cons (.val (.int .i64)) (.cons (.val (.int .i64)) (.cons (.val (.lst (.int .i64))) (.cons (.val (.lst (.int .i64))) (.cons (.val (.lst (.int .i64))) .nil))))))) (.cons (.val .bool) (.cons (.val .bool) .nil))), [], [1], [⟨.normal, [21, 1], (.cons (.val .bool) (.cons (.ptr (.cons (.val (.int .i64)) (.cons (.val (.int .i64)) (.cons (.val (.int .i64)) (.cons (.val (.lst (.int .i64))) (.cons (.val (.lst (.int .i64))) (.cons (.val (.lst (.int .i64))) .nil))))))) .nil)), [some 0]⟩], [], term_form_j43x_v⟩
noncomputable def term_form_ls4 : List (Nat × LCtr) := (111669149739, term_form_j43x) :: term_form_ls3
theorem term_form_lsok4 : LsOK Try.prog Try.f126.ntmps term_form_code term_form_ls4 :=
  join_at (L := term_form_j43x) (fz := term_form_fz) term_form_fsok term_form_isok term_form_lsok3 (by kernel_rfl) (by kernel_rfl) (fun x => by kernel_rfl)
noncomputable def term_form_j43_v (x : ((Int × Int × Int × (List Int) × (List Int) × (List Int) × Unit) × Bool × Bool × Unit)) : Option ((Bool × (Int × Int × Int × (List Int) × (List Int) × (List Int) × Unit) × Unit) ⊕ Empty) :=
  cond (x.2.2.1)
    (some (.inl (x.2.2.1, (x.1.1, x.1.2.1, x.1.2.2.1, x.1.2.2.2.1, x.1.2.2.2.2.1, x.1.2.2.2.2.2.1, ()), ())))
    (Option.bind (term_form_j43x_v ((x.1.1, x.1.2.1, x.1.2.2.1, x.1.2.2.2.1, x.1.2.2.2.2.1, x.1.2.2.2.2.2.1, ()), x.2.1, cond (!x.2.1) (cond (cond (x.1.2.1 != (0 : Int)) true (x.1.2.2.1 != (0 : Int))) true (decide ((x.1.2.2.2.2.2.1.length : Int) > (0 : Int)))) false, ())) fun y8 => out1 y8
      (fun z9 =>
        some (.inl (z9.1, (z9.2.1.1, z9.2.1.2.1, z9.2.1.2.2.1, z9.2.1.2.2.2.1, z9.2.1.2.2.2.2.1, z9.2.1.2.2.2.2.2.1, ()), ()))))
noncomputable def term_form_j43 : LCtr := ⟨[1, 3, 21], (.cons (.ptr (.cons (.val (.int .i64)) (.cons (.val (.int .i64)) (.cons (.val (.int .i64)) (.cons (.val (.lst (.int .i64))) (.cons (.val (.lst (.int .i64))) (.cons (.val (.lst (.int .i64))) .nil))))))) (.cons (.val .bool) (.cons (.val .bool) .nil))), [], [1], [⟨.normal, [21, 1], (.cons (.val .bool) (.cons (.ptr (.cons (.val (.int .i64)) (.cons (.val (.int .i64)) (.cons (.val (.int .i64)) (.cons (.val (.lst (.int .i64))) (.cons (.val (.lst (.int .i64))) (.cons (.val (.lst (.int .i64))) .nil))))))) .nil)), [some 0]⟩], [], term_form_j43_v⟩
noncomputable def term_form_ls5 : List (Nat × LCtr) := (103079215147, term_form_j43) :: term_form_ls4
theorem term_form_lsok5 : LsOK Try.prog Try.f126.ntmps term_form_code term_form_ls5 :=
  join_at (L := term_form_j43) (fz := term_form_fz) term_form_fsok term_form_isok term_form_lsok4 (by kernel_rfl) (by kernel_rfl) (fun x => by kernel_rfl)
noncomputable def term_form (x : (V_api_Term × Unit)) : Option (Int × Unit) :=
  Option.bind (term_form_j21_v (x.1.1, x.1.1 == (1 : Int), ())) fun y1 => out1 y1
    (fun z2 =>
      Option.bind (term_form_j21x_v ((x.1.1, x.1.2.1, x.1.2.2.1, x.1.2.2.2.1, x.1.2.2.2.2.1, x.1.2.2.2.2.2.1, ()), (1 : Int), x.1.1, z2.1, ())) fun y6 => out2 y6
        (fun z7 =>
          Option.bind (term_form_j43_v ((z7.2.1.1, z7.2.1.2.1, z7.2.1.2.2.1, z7.2.1.2.2.2.1, z7.2.1.2.2.2.2.1, z7.2.1.2.2.2.2.2.1, ()), x.1.1 == (4 : Int), (z7.2.1.2.2.2.1.length : Int) != z7.1, ())) fun y10 => out1 y10
            (fun z11 =>
              cond (z11.1)
                (some ((3 : Int), ()))
                (cond (cond (cond (decide ((z11.2.1.2.2.2.1.length : Int) > (16 : Int))) true (decide ((z11.2.1.2.2.2.2.1.length : Int) > (16 : Int)))) true (decide ((z11.2.1.2.2.2.2.2.1.length : Int) > (16 : Int))))
                  (some ((6 : Int), ()))
                  (some ((0 : Int), ())))))
        (fun z12 =>
          some (z12.1, ())))
noncomputable def term_form_c : Ctr := ⟨(.cons t_api_Term .nil), (.cons (.int .i64) .nil), term_form, none⟩
theorem term_form_ok : CtrOK Try.prog 126 term_form_c :=
  fun_at (fz := term_form_fz) term_form_fsok term_form_isok Try.func126 (by kernel_rfl) (c := term_form_code) (by kernel_rfl) term_form_lsok5 (by kernel_rfl) (fun x => by kernel_rfl)
/-! ### easement/term.beyond: function 127 -/
noncomputable def term_beyond_code : Code := Try.f127.body.getD .skip
noncomputable def term_beyond_fs : List (Nat × Ctr) := []
noncomputable def term_beyond_is : List (Nat × List PI) := []
theorem term_beyond_fsok : FsOK Try.prog term_beyond_fs := trivial
theorem term_beyond_isok : IsOK Try.prog term_beyond_is := trivial
def term_beyond_fz : List (Nat × List Nat) := []
noncomputable def term_beyond_ls0 : List (Nat × LCtr) := []
theorem term_beyond_lsok0 : LsOK Try.prog Try.f127.ntmps term_beyond_code term_beyond_ls0 := trivial
noncomputable def term_beyond (x : (Int × Unit)) : Option ((Option (Int × Unit)) × Unit) :=
  some (some (x.1, ()), ())
noncomputable def term_beyond_c : Ctr := ⟨(.cons (.int .i64) .nil), (.cons (.ptr (.cons (.int .i64) .nil)) .nil), term_beyond, some 156⟩
theorem term_beyond_ok : CtrOK Try.prog 127 term_beyond_c :=
  fun_atC (fz := term_beyond_fz) term_beyond_fsok term_beyond_isok Try.func127 (by kernel_rfl) (c := term_beyond_code) (by kernel_rfl) term_beyond_lsok0 (by kernel_rfl) (fun x => by kernel_rfl)
/-! ### easement/term.beyond$1: function 156 -/
noncomputable def term_beyond_1_code : Code := Try.f156.body.getD .skip
noncomputable def term_beyond_1_fs : List (Nat × Ctr) := []
noncomputable def term_beyond_1_is : List (Nat × List PI) := []
theorem term_beyond_1_fsok : FsOK Try.prog term_beyond_1_fs := trivial
theorem term_beyond_1_isok : IsOK Try.prog term_beyond_1_is := trivial
def term_beyond_1_fz : List (Nat × List Nat) := []
noncomputable def term_beyond_1_ls0 : List (Nat × LCtr) := []
theorem term_beyond_1_lsok0 : LsOK Try.prog Try.f156.ntmps term_beyond_1_code term_beyond_1_ls0 := trivial
noncomputable def term_beyond_1 (x : (Int × (Option (Int × Unit)) × Unit)) : Option (Bool × Unit) :=
  ck ((x.2.1.isSome) || !(!(decide (x.1 < (0 : Int))))) <|
  some (cond (decide (x.1 < (0 : Int))) true (decide (x.1 ≥ (x.2.1.getD (Ty.dflt (.cons (.int .i64) .nil))).1)), ())
noncomputable def term_beyond_1_c : Ctr := ⟨(.cons (.int .i64) (.cons (.ptr (.cons (.int .i64) .nil)) .nil)), (.cons .bool .nil), term_beyond_1, none⟩
theorem term_beyond_1_ok : CtrOK Try.prog 156 term_beyond_1_c :=
  fun_at (fz := term_beyond_1_fz) term_beyond_1_fsok term_beyond_1_isok Try.func156 (by kernel_rfl) (c := term_beyond_1_code) (by kernel_rfl) term_beyond_1_lsok0 (by kernel_rfl) (fun x => by kernel_rfl)
/-! ### slices.IndexFunc[[]int,int]: function 157, at objects -/
noncomputable def slices_IndexFunc_157_p0_code : Code := Try.f157.body.getD .skip
noncomputable def slices_IndexFunc_157_p0_fs : List (Nat × Ctr) := [(156, term_beyond_1_c)]
noncomputable def slices_IndexFunc_157_p0_is : List (Nat × List PI) := []
theorem slices_IndexFunc_157_p0_fsok : FsOK Try.prog slices_IndexFunc_157_p0_fs := ⟨term_beyond_1_ok, trivial⟩
theorem slices_IndexFunc_157_p0_isok : IsOK Try.prog slices_IndexFunc_157_p0_is := trivial
def slices_IndexFunc_157_p0_fz : List (Nat × List Nat) := []
noncomputable def slices_IndexFunc_157_p0_ls0 : List (Nat × LCtr) := []
theorem slices_IndexFunc_157_p0_lsok0 : LsOK Try.prog Try.f157.ntmps slices_IndexFunc_157_p0_code slices_IndexFunc_157_p0_ls0 := trivial
noncomputable def slices_IndexFunc_157_p0_l4_step (g : ((List Int) × ((Option (Int × Unit)) × Unit) × Int × Int × Unit) → Option ((Int × Unit) ⊕ (Unit ⊕ Empty))) (x : ((List Int) × ((Option (Int × Unit)) × Unit) × Int × Int × Unit)) : Option ((Int × Unit) ⊕ (Unit ⊕ Empty)) :=
  cond (decide (x.2.2.2.1 < x.2.2.1))
    (ck (inB x.2.2.2.1 (x.1.length)) <|
    Option.bind (term_beyond_1 (rdL (.int .i64) x.1 x.2.2.2.1, x.2.1.1, ())) fun y1 =>
    cond (y1.1)
      (some (.inl (x.2.2.2.1, ())))
      (g (x.1, (x.2.1.1, ()), x.2.2.1, IntKind.i64.wrap (x.2.2.2.1 + (1 : Int)), ())))
    (some (.inr (.inl ())))
noncomputable def slices_IndexFunc_157_p0_l4 : LCtr := ⟨[0, 1, 7, 8], (.cons (.val (.lst (.int .i64))) (.cons (.clo 156 (.cons (.val (.ptr (.cons (.int .i64) .nil))) .nil)) (.cons (.val (.int .i64)) (.cons (.val (.int .i64)) .nil)))), [], [0, 1], [⟨.ret, [4], (.cons (.val (.int .i64)) .nil), []⟩, ⟨(.exit 0), [], .nil, []⟩], [], lim slices_IndexFunc_157_p0_l4_step⟩
noncomputable def slices_IndexFunc_157_p0_ls1 : List (Nat × LCtr) := (4, slices_IndexFunc_157_p0_l4) :: slices_IndexFunc_157_p0_ls0
theorem slices_IndexFunc_157_p0_lsok1 : LsOK Try.prog Try.f157.ntmps slices_IndexFunc_157_p0_code slices_IndexFunc_157_p0_ls1 :=
  loop_at (L := slices_IndexFunc_157_p0_l4) (fz := slices_IndexFunc_157_p0_fz) slices_IndexFunc_157_p0_fsok slices_IndexFunc_157_p0_isok slices_IndexFunc_157_p0_lsok0 (by kernel_rfl) (by kernel_rfl) (by kernel_rfl) (step := slices_IndexFunc_157_p0_l4_step) rfl (fun g x => by kernel_rfl)
noncomputable def slices_IndexFunc_157_p0 (x : ((List Int) × ((Option (Int × Unit)) × Unit) × Unit)) : Option ((Int × Unit) ⊕ Empty) :=
  Option.bind (lim slices_IndexFunc_157_p0_l4_step (x.1, (x.2.1.1, ()), (x.1.length : Int), (0 : Int), ())) fun y2 => out2 y2
    (fun z3 =>
      some (.inl (z3.1, ())))
    (fun z4 =>
      some (.inl ((-1 : Int), ())))
noncomputable def slices_IndexFunc_157_p0_L : LCtr := ⟨[0, 1], (.cons (.val (.lst (.int .i64))) (.cons (.clo 156 (.cons (.val (.ptr (.cons (.int .i64) .nil))) .nil)) .nil)), [], [], [⟨.ret, [4], (.cons (.val (.int .i64)) .nil), []⟩], [], slices_IndexFunc_157_p0⟩
noncomputable def slices_IndexFunc_157_p0_c : PI := ⟨Try.f157.ntmps, slices_IndexFunc_157_p0_code, Try.f157.results.toList, slices_IndexFunc_157_p0_L⟩
theorem slices_IndexFunc_157_p0_ok : PIOK Try.prog 157 slices_IndexFunc_157_p0_c :=
  proc_at (L := slices_IndexFunc_157_p0_L) (fz := slices_IndexFunc_157_p0_fz) slices_IndexFunc_157_p0_fsok slices_IndexFunc_157_p0_isok Try.func157 (by kernel_rfl) (by kernel_rfl) slices_IndexFunc_157_p0_lsok1 (by kernel_rfl) (fun x => by kernel_rfl)
/-! ### slices.ContainsFunc[[]int,int]: function 128, at objects -/
noncomputable def slices_ContainsFunc_128_p0_code : Code := Try.f128.body.getD .skip
noncomputable def slices_ContainsFunc_128_p0_fs : List (Nat × Ctr) := []
noncomputable def slices_ContainsFunc_128_p0_is : List (Nat × List PI) := [(157, [slices_IndexFunc_157_p0_c])]
theorem slices_ContainsFunc_128_p0_fsok : FsOK Try.prog slices_ContainsFunc_128_p0_fs := trivial
theorem slices_ContainsFunc_128_p0_isok : IsOK Try.prog slices_ContainsFunc_128_p0_is := ⟨⟨slices_IndexFunc_157_p0_ok, trivial⟩, trivial⟩
def slices_ContainsFunc_128_p0_fz : List (Nat × List Nat) := []
noncomputable def slices_ContainsFunc_128_p0_ls0 : List (Nat × LCtr) := []
theorem slices_ContainsFunc_128_p0_lsok0 : LsOK Try.prog Try.f128.ntmps slices_ContainsFunc_128_p0_code slices_ContainsFunc_128_p0_ls0 := trivial
noncomputable def slices_ContainsFunc_128_p0 (x : ((List Int) × ((Option (Int × Unit)) × Unit) × Unit)) : Option ((Bool × Unit) ⊕ Empty) :=
  Option.bind (slices_IndexFunc_157_p0 (x.1, (x.2.1.1, ()), ())) fun y1 => out1 y1
    (fun z2 =>
      some (.inl (decide (z2.1 ≥ (0 : Int)), ())))
noncomputable def slices_ContainsFunc_128_p0_L : LCtr := ⟨[0, 1], (.cons (.val (.lst (.int .i64))) (.cons (.clo 156 (.cons (.val (.ptr (.cons (.int .i64) .nil))) .nil)) .nil)), [], [], [⟨.ret, [4], (.cons (.val .bool) .nil), []⟩], [], slices_ContainsFunc_128_p0⟩
noncomputable def slices_ContainsFunc_128_p0_c : PI := ⟨Try.f128.ntmps, slices_ContainsFunc_128_p0_code, Try.f128.results.toList, slices_ContainsFunc_128_p0_L⟩
theorem slices_ContainsFunc_128_p0_ok : PIOK Try.prog 128 slices_ContainsFunc_128_p0_c :=
  proc_at (L := slices_ContainsFunc_128_p0_L) (fz := slices_ContainsFunc_128_p0_fz) slices_ContainsFunc_128_p0_fsok slices_ContainsFunc_128_p0_isok Try.func128 (by kernel_rfl) (by kernel_rfl) slices_ContainsFunc_128_p0_lsok0 (by kernel_rfl) (fun x => by kernel_rfl)
/-! ### slices.Clone[[]easement/api.Slot,easement/api.Slot]: function 80, at objects -/
noncomputable def slices_Clone_80_p0_code : Code := Try.f80.body.getD .skip
noncomputable def slices_Clone_80_p0_fs : List (Nat × Ctr) := []
noncomputable def slices_Clone_80_p0_is : List (Nat × List PI) := []
theorem slices_Clone_80_p0_fsok : FsOK Try.prog slices_Clone_80_p0_fs := trivial
theorem slices_Clone_80_p0_isok : IsOK Try.prog slices_Clone_80_p0_is := trivial
def slices_Clone_80_p0_fz : List (Nat × List Nat) := []
noncomputable def slices_Clone_80_p0_ls0 : List (Nat × LCtr) := []
theorem slices_Clone_80_p0_lsok0 : LsOK Try.prog Try.f80.ntmps slices_Clone_80_p0_code slices_Clone_80_p0_ls0 := trivial
noncomputable def slices_Clone_80_p0 (x : ((List V_api_Slot) × Unit)) : Option (((List V_api_Slot) × Unit) ⊕ Empty) :=
  cond (x.1.isEmpty) (agree
    (some (.inl (([] : List V_api_Slot), ())))
    (let v1 := ([] : List V_api_Slot) ++ x.1
    ck (roomB v1.length 19) <|
    some (.inl (v1, ()))))
    (let v1 := ([] : List V_api_Slot) ++ x.1
    ck (roomB v1.length 19) <|
    some (.inl (v1, ())))
noncomputable def slices_Clone_80_p0_L : LCtr := ⟨[0], (.cons (.val (.lst t_api_Slot)) .nil), [], [], [⟨.ret, [2], (.cons (.own t_api_Slot) .nil), [none]⟩], [], slices_Clone_80_p0⟩
noncomputable def slices_Clone_80_p0_c : PI := ⟨Try.f80.ntmps, slices_Clone_80_p0_code, Try.f80.results.toList, slices_Clone_80_p0_L⟩
theorem slices_Clone_80_p0_ok : PIOK Try.prog 80 slices_Clone_80_p0_c :=
  proc_at (L := slices_Clone_80_p0_L) (fz := slices_Clone_80_p0_fz) slices_Clone_80_p0_fsok slices_Clone_80_p0_isok Try.func80 (by kernel_rfl) (by kernel_rfl) slices_Clone_80_p0_lsok0 (by kernel_rfl) (fun x => by kernel_rfl)
/-! ### easement/row.Clone: function 44, at objects -/
noncomputable def row_Clone_p0_code : Code := Try.f44.body.getD .skip
noncomputable def row_Clone_p0_fs : List (Nat × Ctr) := []
noncomputable def row_Clone_p0_is : List (Nat × List PI) := [(80, [slices_Clone_80_p0_c])]
theorem row_Clone_p0_fsok : FsOK Try.prog row_Clone_p0_fs := trivial
theorem row_Clone_p0_isok : IsOK Try.prog row_Clone_p0_is := ⟨⟨slices_Clone_80_p0_ok, trivial⟩, trivial⟩
def row_Clone_p0_fz : List (Nat × List Nat) := []
noncomputable def row_Clone_p0_ls0 : List (Nat × LCtr) := []
theorem row_Clone_p0_lsok0 : LsOK Try.prog Try.f44.ntmps row_Clone_p0_code row_Clone_p0_ls0 := trivial
noncomputable def row_Clone_p0 (x : (V_api_Type × Unit)) : Option ((((List V_api_Slot) × Unit) × Unit) ⊕ Empty) :=
  Option.bind (slices_Clone_80_p0 (x.1.1, ())) fun y1 => out1 y1
    (fun z2 =>
      some (.inl ((z2.1, ()), ())))
noncomputable def row_Clone_p0_L : LCtr := ⟨[0], (.cons (.val t_api_Type) .nil), [], [], [⟨.ret, [2], (.cons (.ptr (.cons (.own t_api_Slot) .nil)) .nil), [none, none]⟩], [], row_Clone_p0⟩
noncomputable def row_Clone_p0_c : PI := ⟨Try.f44.ntmps, row_Clone_p0_code, Try.f44.results.toList, row_Clone_p0_L⟩
theorem row_Clone_p0_ok : PIOK Try.prog 44 row_Clone_p0_c :=
  proc_at (L := row_Clone_p0_L) (fz := row_Clone_p0_fz) row_Clone_p0_fsok row_Clone_p0_isok Try.func44 (by kernel_rfl) (by kernel_rfl) row_Clone_p0_lsok0 (by kernel_rfl) (fun x => by kernel_rfl)
/-! ### easement/row.Subst: function 23 -/
noncomputable def row_Subst_code : Code := Try.f23.body.getD .skip
noncomputable def row_Subst_fs : List (Nat × Ctr) := []
noncomputable def row_Subst_is : List (Nat × List PI) := [(44, [row_Clone_p0_c])]
theorem row_Subst_fsok : FsOK Try.prog row_Subst_fs := trivial
theorem row_Subst_isok : IsOK Try.prog row_Subst_is := ⟨⟨row_Clone_p0_ok, trivial⟩, trivial⟩
def row_Subst_fz : List (Nat × List Nat) := []
noncomputable def row_Subst_ls0 : List (Nat × LCtr) := []
theorem row_Subst_lsok0 : LsOK Try.prog Try.f23.ntmps row_Subst_code row_Subst_ls0 := trivial
noncomputable def row_Subst_l6_step (g : (((List V_api_Slot) × Unit) × ((List V_api_Slot) × Unit) × (List Int) × Int × Int × Unit) → Option ((Int × (Unit × Unit) × ((List V_api_Slot) × Unit) × Unit) ⊕ ((((List V_api_Slot) × Unit) × ((List V_api_Slot) × Unit) × Unit) ⊕ Empty))) (x : (((List V_api_Slot) × Unit) × ((List V_api_Slot) × Unit) × (List Int) × Int × Int × Unit)) : Option ((Int × (Unit × Unit) × ((List V_api_Slot) × Unit) × Unit) ⊕ ((((List V_api_Slot) × Unit) × ((List V_api_Slot) × Unit) × Unit) ⊕ Empty)) :=
  cond (decide (x.2.2.2.2.1 < x.2.2.2.1))
    (ck (inB x.2.2.2.2.1 (x.2.1.1.length)) <|
    let v1 := (x.2.1.1.getD x.2.2.2.2.1.toNat (Ty.dflt t_api_Slot)).1
    cond (cond (decide (v1 < (0 : Int))) true (decide (v1 ≥ (x.2.2.1.length : Int))))
      (some (.inl ((7 : Int), ((), ()), (x.2.1.1, ()), ())))
      (ck (inB v1 (x.2.2.1.length)) <|
      ck (inB x.2.2.2.2.1 (x.2.1.1.length)) <|
      g ((x.1.1, ()), (x.2.1.1.set x.2.2.2.2.1.toNat (rdL (.int .i64) x.2.2.1 v1, (x.2.1.1.getD x.2.2.2.2.1.toNat (Ty.dflt t_api_Slot)).2), ()), x.2.2.1, x.2.2.2.1, IntKind.i64.wrap (x.2.2.2.2.1 + (1 : Int)), ())))
    (some (.inr (.inl ((x.1.1, ()), (x.2.1.1, ()), ()))))
noncomputable def row_Subst_l6 : LCtr := ⟨[4, 6, 1, 13, 14], (.cons (.ptr (.cons (.own t_api_Slot) .nil)) (.cons (.ptr (.cons (.own t_api_Slot) .nil)) (.cons (.val (.lst (.int .i64))) (.cons (.val (.int .i64)) (.cons (.val (.int .i64)) .nil))))), [some 0, some 1, some 2, some 3], [4, 6], [⟨.ret, [5, 4, 6], (.cons (.val (.int .i64)) (.cons (.ptr (.cons (.cst false) .nil)) (.cons (.ptr (.cons (.own t_api_Slot) .nil)) .nil))), [some 0, some 2, some 3]⟩, ⟨(.exit 0), [4, 6], (.cons (.ptr (.cons (.own t_api_Slot) .nil)) (.cons (.ptr (.cons (.own t_api_Slot) .nil)) .nil)), [some 0, some 1, some 2, some 3]⟩], [(12, .sf 3)], lim row_Subst_l6_step⟩
noncomputable def row_Subst_ls1 : List (Nat × LCtr) := (6, row_Subst_l6) :: row_Subst_ls0
theorem row_Subst_lsok1 : LsOK Try.prog Try.f23.ntmps row_Subst_code row_Subst_ls1 :=
  loop_at (L := row_Subst_l6) (fz := row_Subst_fz) row_Subst_fsok row_Subst_isok row_Subst_lsok0 (by kernel_rfl) (by kernel_rfl) (by kernel_rfl) (step := row_Subst_l6_step) rfl (fun g x => by kernel_rfl)
noncomputable def row_Subst (x : (V_api_Type × (List Int) × Unit)) : Option (V_api_Type × Int × Unit) :=
  Option.bind (row_Clone_p0 ((x.1.1, ()), ())) fun y1 => out1 y1
    (fun z2 =>
      Option.bind (lim row_Subst_l6_step ((([] : List V_api_Slot), ()), (z2.1.1, ()), x.2.1, (z2.1.1.length : Int), (0 : Int), ())) fun y3 => out2 y3
        (fun z4 =>
          some ((([] : List V_api_Slot), ()), z4.1, ()))
        (fun z5 =>
          some ((z5.2.1.1, ()), (0 : Int), ())))
noncomputable def row_Subst_c : Ctr := ⟨(.cons t_api_Type (.cons (.lst (.int .i64)) .nil)), (.cons t_api_Type (.cons (.int .i64) .nil)), row_Subst, none⟩
theorem row_Subst_ok : CtrOK Try.prog 23 row_Subst_c :=
  fun_at (fz := row_Subst_fz) row_Subst_fsok row_Subst_isok Try.func23 (by kernel_rfl) (c := row_Subst_code) (by kernel_rfl) row_Subst_lsok1 (by kernel_rfl) (fun x => by kernel_rfl)
/-! ### easement/sig.Call: function 158 -/
noncomputable def sig_Call_code : Code := Try.f158.body.getD .skip
noncomputable def sig_Call_fs : List (Nat × Ctr) := [(112, sig_Check_c), (23, row_Subst_c), (153, relate_Flow_c)]
noncomputable def sig_Call_is : List (Nat × List PI) := []
theorem sig_Call_fsok : FsOK Try.prog sig_Call_fs := ⟨sig_Check_ok, row_Subst_ok, relate_Flow_ok, trivial⟩
theorem sig_Call_isok : IsOK Try.prog sig_Call_is := trivial
def sig_Call_fz : List (Nat × List Nat) := []
noncomputable def sig_Call_ls0 : List (Nat × LCtr) := []
theorem sig_Call_lsok0 : LsOK Try.prog Try.f158.ntmps sig_Call_code sig_Call_ls0 := trivial
noncomputable def sig_Call_l16_step (g : ((List Int) × (List V_api_Prov) × (List V_easementref08_Pair) × Int × Int × Unit) → Option (((List V_api_Prov) × Unit) ⊕ Empty)) (x : ((List Int) × (List V_api_Prov) × (List V_easementref08_Pair) × Int × Int × Unit)) : Option (((List V_api_Prov) × Unit) ⊕ Empty) :=
  cond (decide (x.2.2.2.2.1 < x.2.2.2.1))
    (ck (inB x.2.2.2.2.1 (x.2.2.1.length)) <|
    let v1 := rdL t_easementref08_Pair x.2.2.1 x.2.2.2.2.1
    ck (inB v1.1 (x.1.length)) <|
    ck (inB v1.2.1 (x.1.length)) <|
    let v2 := x.2.1 ++ [(rdL (.int .i64) x.1 v1.1, rdL (.int .i64) x.1 v1.2.1, (4 : Int), x.2.2.2.2.1, false, ())]
    ck (roomB v2.length 46) <|
    g (x.1, v2, x.2.2.1, x.2.2.2.1, IntKind.i64.wrap (x.2.2.2.2.1 + (1 : Int)), ()))
    (some (.inl (x.2.1, ())))
noncomputable def sig_Call_l16 : LCtr := ⟨[1, 11, 43, 44, 45], (.cons (.val (.lst (.int .i64))) (.cons (.own t_api_Prov) (.cons (.val (.lst t_easementref08_Pair)) (.cons (.val (.int .i64)) (.cons (.val (.int .i64)) .nil))))), [none], [1, 2, 4, 7], [⟨(.exit 0), [11], (.cons (.own t_api_Prov) .nil), [none]⟩], [], lim sig_Call_l16_step⟩
noncomputable def sig_Call_ls1 : List (Nat × LCtr) := (16, sig_Call_l16) :: sig_Call_ls0
theorem sig_Call_lsok1 : LsOK Try.prog Try.f158.ntmps sig_Call_code sig_Call_ls1 :=
  loop_at (L := sig_Call_l16) (fz := sig_Call_fz) sig_Call_fsok sig_Call_isok sig_Call_lsok0 (by kernel_rfl) (by kernel_rfl) (by kernel_rfl) (step := sig_Call_l16_step) rfl (fun g x => by kernel_rfl)
noncomputable def sig_Call_l26_step (g : ((List Int) × (List V_api_Type) × (List V_api_Prov) × (List V_api_Type) × Int × Int × Unit) → Option (((List V_api_Prov) × Int × (List V_api_Prov) × Unit) ⊕ (((List V_api_Prov) × Unit) ⊕ Empty))) (x : ((List Int) × (List V_api_Type) × (List V_api_Prov) × (List V_api_Type) × Int × Int × Unit)) : Option (((List V_api_Prov) × Int × (List V_api_Prov) × Unit) ⊕ (((List V_api_Prov) × Unit) ⊕ Empty)) :=
  cond (decide (x.2.2.2.2.2.1 < x.2.2.2.2.1))
    (ck (inB x.2.2.2.2.2.1 (x.2.2.2.1.length)) <|
    Option.bind (row_Subst (((rdL t_api_Type x.2.2.2.1 x.2.2.2.2.2.1).1, ()), x.1, ())) fun y4 =>
    ck (inB x.2.2.2.2.2.1 (x.2.1.length)) <|
    Option.bind (relate_Flow (((rdL t_api_Type x.2.1 x.2.2.2.2.2.1).1, ()), (y4.1.1, ()), (5 : Int), IntKind.i64.wrap (x.2.2.2.2.2.1 * (16 : Int)), ())) fun y5 =>
    cond (y5.2.1 != (0 : Int))
      (some (.inl (([] : List V_api_Prov), y5.2.1, x.2.2.1, ())))
      (ck (roomB (x.2.2.1 ++ y5.1).length 46) <|
      g (x.1, x.2.1, x.2.2.1 ++ y5.1, x.2.2.2.1, x.2.2.2.2.1, IntKind.i64.wrap (x.2.2.2.2.2.1 + (1 : Int)), ())))
    (some (.inr (.inl (x.2.2.1, ()))))
noncomputable def sig_Call_l26 : LCtr := ⟨[1, 2, 11, 67, 68, 69], (.cons (.val (.lst (.int .i64))) (.cons (.val (.lst t_api_Type)) (.cons (.own t_api_Prov) (.cons (.val (.lst t_api_Type)) (.cons (.val (.int .i64)) (.cons (.val (.int .i64)) .nil)))))), [none], [1, 4, 7], [⟨.ret, [8, 9, 11], (.cons (.own t_api_Prov) (.cons (.val (.int .i64)) (.cons (.own t_api_Prov) .nil))), [none, none]⟩, ⟨(.exit 2), [11], (.cons (.own t_api_Prov) .nil), [none]⟩], [], lim sig_Call_l26_step⟩
noncomputable def sig_Call_ls2 : List (Nat × LCtr) := (26, sig_Call_l26) :: sig_Call_ls1
theorem sig_Call_lsok2 : LsOK Try.prog Try.f158.ntmps sig_Call_code sig_Call_ls2 :=
  loop_at (L := sig_Call_l26) (fz := sig_Call_fz) sig_Call_fsok sig_Call_isok sig_Call_lsok1 (by kernel_rfl) (by kernel_rfl) (by kernel_rfl) (step := sig_Call_l26_step) rfl (fun g x => by kernel_rfl)
noncomputable def sig_Call (x : (V_api_Sig × (List Int) × (List V_api_Type) × V_api_Type × Unit)) : Option ((List V_api_Prov) × Int × Unit) :=
  Option.bind (sig_Check ((x.1.1, x.1.2.1, x.1.2.2.1, x.1.2.2.2.1, ()), ())) fun y1 =>
  cond (y1.1 != (0 : Int))
    (some (([] : List V_api_Prov), y1.1, ()))
    (cond (cond ((x.2.1.length : Int) != x.1.1) true ((x.2.2.1.length : Int) != (x.1.2.2.1.length : Int)))
      (some (([] : List V_api_Prov), (2 : Int), ()))
      (Option.bind (lim sig_Call_l16_step (x.2.1, ([] : List V_api_Prov), x.1.2.1, (x.1.2.1.length : Int), (0 : Int), ())) fun y2 => out1 y2
        (fun z3 =>
          Option.bind (lim sig_Call_l26_step (x.2.1, x.2.2.1, z3.1, x.1.2.2.1, (x.1.2.2.1.length : Int), (0 : Int), ())) fun y6 => out2 y6
            (fun z7 =>
              some (z7.1, z7.2.1, ()))
            (fun z8 =>
              Option.bind (row_Subst ((x.1.2.2.2.1, ()), x.2.1, ())) fun y9 =>
              Option.bind (relate_Flow ((y9.1.1, ()), (x.2.2.2.1.1, ()), (6 : Int), (0 : Int), ())) fun y10 =>
              cond (y10.2.1 != (0 : Int))
                (some (([] : List V_api_Prov), y10.2.1, ()))
                (ck (roomB (z8.1 ++ y10.1).length 46) <|
                some (z8.1 ++ y10.1, (0 : Int), ()))))))
noncomputable def sig_Call_c : Ctr := ⟨(.cons t_api_Sig (.cons (.lst (.int .i64)) (.cons (.lst t_api_Type) (.cons t_api_Type .nil)))), (.cons (.lst t_api_Prov) (.cons (.int .i64) .nil)), sig_Call, none⟩
theorem sig_Call_ok : CtrOK Try.prog 158 sig_Call_c :=
  fun_at (fz := sig_Call_fz) sig_Call_fsok sig_Call_isok Try.func158 (by kernel_rfl) (c := sig_Call_code) (by kernel_rfl) sig_Call_lsok2 (by kernel_rfl) (fun x => by kernel_rfl)
/-! ### easement/term.needs: function 129 -/
noncomputable def term_needs_code : Code := Try.f129.body.getD .skip
noncomputable def term_needs_fs : List (Nat × Ctr) := [(153, relate_Flow_c), (158, sig_Call_c)]
noncomputable def term_needs_is : List (Nat × List PI) := []
theorem term_needs_fsok : FsOK Try.prog term_needs_fs := ⟨relate_Flow_ok, sig_Call_ok, trivial⟩
theorem term_needs_isok : IsOK Try.prog term_needs_is := trivial
def term_needs_fz : List (Nat × List Nat) := []
noncomputable def term_needs_ls0 : List (Nat × LCtr) := []
theorem term_needs_lsok0 : LsOK Try.prog Try.f129.ntmps term_needs_code term_needs_ls0 := trivial
noncomputable def term_needs_l14_step (g : ((Int × Int × (List V_api_Type) × (List V_api_Slot) × (List V_api_Sig) × Unit) × (List V_api_Type) × (List Int) × Int × Int × Unit) → Option (((List V_api_Type) × (Int × Int × (List V_api_Type) × (List V_api_Slot) × (List V_api_Sig) × Unit) × Unit) ⊕ Empty)) (x : ((Int × Int × (List V_api_Type) × (List V_api_Slot) × (List V_api_Sig) × Unit) × (List V_api_Type) × (List Int) × Int × Int × Unit)) : Option (((List V_api_Type) × (Int × Int × (List V_api_Type) × (List V_api_Slot) × (List V_api_Sig) × Unit) × Unit) ⊕ Empty) :=
  cond (decide (x.2.2.2.2.1 < x.2.2.2.1))
    (ck (inB x.2.2.2.2.1 (x.2.2.1.length)) <|
    let v1 := rdL (.int .i64) x.2.2.1 x.2.2.2.2.1
    ck (inB v1 (x.1.2.2.1.length)) <|
    let v2 := x.2.1 ++ [((rdL t_api_Type x.1.2.2.1 v1).1, ())]
    ck (roomB v2.length 26) <|
    g ((x.1.1, x.1.2.1, x.1.2.2.1, x.1.2.2.2.1, x.1.2.2.2.2.1, ()), v2, x.2.2.1, x.2.2.2.1, IntKind.i64.wrap (x.2.2.2.2.1 + (1 : Int)), ()))
    (some (.inl (x.2.1, (x.1.1, x.1.2.1, x.1.2.2.1, x.1.2.2.2.1, x.1.2.2.2.2.1, ()), ())))
noncomputable def term_needs_l14 : LCtr := ⟨[3, 6, 25, 26, 27], (.cons (.ptr (.cons (.val (.int .i64)) (.cons (.val (.int .i64)) (.cons (.val (.lst t_api_Type)) (.cons (.val (.lst t_api_Slot)) (.cons (.val (.lst t_api_Sig)) .nil)))))) (.cons (.own t_api_Type) (.cons (.val (.lst (.int .i64))) (.cons (.val (.int .i64)) (.cons (.val (.int .i64)) .nil))))), [some 0, none], [2, 3], [⟨(.exit 1), [6, 3], (.cons (.own t_api_Type) (.cons (.ptr (.cons (.val (.int .i64)) (.cons (.val (.int .i64)) (.cons (.val (.lst t_api_Type)) (.cons (.val (.lst t_api_Slot)) (.cons (.val (.lst t_api_Sig)) .nil)))))) .nil)), [none, some 0]⟩], [], lim term_needs_l14_step⟩
noncomputable def term_needs_ls1 : List (Nat × LCtr) := (14, term_needs_l14) :: term_needs_ls0
theorem term_needs_lsok1 : LsOK Try.prog Try.f129.ntmps term_needs_code term_needs_ls1 :=
  loop_at (L := term_needs_l14) (fz := term_needs_fz) term_needs_fsok term_needs_isok term_needs_lsok0 (by kernel_rfl) (by kernel_rfl) (by kernel_rfl) (step := term_needs_l14_step) rfl (fun g x => by kernel_rfl)
noncomputable def term_needs (x : (V_api_Term × V_term_Around × Unit)) : Option ((List V_api_Prov) × Int × Unit) :=
  cond (x.1.1 == (3 : Int))
    (ck (inB (0 : Int) (x.2.1.2.2.1.length)) <|
    Option.bind (relate_Flow (((rdL t_api_Type x.2.1.2.2.1 (0 : Int)).1, ()), (x.2.1.2.2.2.1, ()), (7 : Int), (0 : Int), ())) fun y1 =>
    some (y1.1, y1.2.1, ()))
    (cond (x.1.1 == (4 : Int))
      (Option.bind (lim term_needs_l14_step ((x.2.1.1, x.2.1.2.1, x.2.1.2.2.1, x.2.1.2.2.2.1, x.2.1.2.2.2.2.1, ()), ([] : List V_api_Type), x.1.2.2.2.2.1, (x.1.2.2.2.2.1.length : Int), (0 : Int), ())) fun y2 => out1 y2
        (fun z3 =>
          ck (inB x.1.2.1 (z3.2.1.2.2.2.2.1.length)) <|
          ck (inB x.1.2.2.1 (z3.2.1.2.2.1.length)) <|
          let v1 := rdL t_api_Sig z3.2.1.2.2.2.2.1 x.1.2.1
          Option.bind (sig_Call ((v1.1, v1.2.1, v1.2.2.1, v1.2.2.2.1, ()), x.1.2.2.2.2.2.1, z3.1, ((rdL t_api_Type z3.2.1.2.2.1 x.1.2.2.1).1, ()), ())) fun y4 =>
          some (y4.1, y4.2.1, ())))
      (some (([] : List V_api_Prov), (0 : Int), ())))
noncomputable def term_needs_c : Ctr := ⟨(.cons t_api_Term (.cons t_term_Around .nil)), (.cons (.lst t_api_Prov) (.cons (.int .i64) .nil)), term_needs, none⟩
theorem term_needs_ok : CtrOK Try.prog 129 term_needs_c :=
  fun_at (fz := term_needs_fz) term_needs_fsok term_needs_isok Try.func129 (by kernel_rfl) (c := term_needs_code) (by kernel_rfl) term_needs_lsok1 (by kernel_rfl) (fun x => by kernel_rfl)
/-! ### easement/term.Check: function 114 -/
noncomputable def term_Check_code : Code := Try.f114.body.getD .skip
noncomputable def term_Check_fs : List (Nat × Ctr) := [(126, term_form_c), (127, term_beyond_c), (156, term_beyond_1_c), (129, term_needs_c)]
noncomputable def term_Check_is : List (Nat × List PI) := [(128, [slices_ContainsFunc_128_p0_c])]
theorem term_Check_fsok : FsOK Try.prog term_Check_fs := ⟨term_form_ok, term_beyond_ok, term_beyond_1_ok, term_needs_ok, trivial⟩
theorem term_Check_isok : IsOK Try.prog term_Check_is := ⟨⟨slices_ContainsFunc_128_p0_ok, trivial⟩, trivial⟩
def term_Check_fz : List (Nat × List Nat) := []
noncomputable def term_Check_ls0 : List (Nat × LCtr) := []
theorem term_Check_lsok0 : LsOK Try.prog Try.f114.ntmps term_Check_code term_Check_ls0 := trivial
noncomputable def term_Check_j37x_v (x : ((Int × Int × Int × (List Int) × (List Int) × (List Int) × Unit) × (Int × Int × (List V_api_Type) × (List V_api_Slot) × (List V_api_Sig) × Unit) × Bool × Unit)) : Option ((Bool × (Int × Int × Int × (List Int) × (List Int) × (List Int) × Unit) × (Int × Int × (List V_api_Type) × (List V_api_Slot) × (List V_api_Sig) × Unit) × Unit) ⊕ Empty) :=
  cond (x.2.2.1)
    (some (.inl (x.2.2.1, (x.1.1, x.1.2.1, x.1.2.2.1, x.1.2.2.2.1, x.1.2.2.2.2.1, x.1.2.2.2.2.2.1, ()), (x.2.1.1, x.2.1.2.1, x.2.1.2.2.1, x.2.1.2.2.2.1, x.2.1.2.2.2.2.1, ()), ())))
    (Option.bind (term_beyond (x.2.1.2.1, ())) fun y8 =>
    Option.bind (slices_ContainsFunc_128_p0 (x.1.2.2.2.2.2.1, (y8.1, ()), ())) fun y9 => out1 y9
      (fun z10 =>
        some (.inl (z10.1, (x.1.1, x.1.2.1, x.1.2.2.1, x.1.2.2.2.1, x.1.2.2.2.2.1, x.1.2.2.2.2.2.1, ()), (x.2.1.1, x.2.1.2.1, x.2.1.2.2.1, x.2.1.2.2.2.1, x.2.1.2.2.2.2.1, ()), ()))))
noncomputable def term_Check_j37x : LCtr := ⟨[2, 3, 18], (.cons (.ptr (.cons (.val (.int .i64)) (.cons (.val (.int .i64)) (.cons (.val (.int .i64)) (.cons (.val (.lst (.int .i64))) (.cons (.val (.lst (.int .i64))) (.cons (.val (.lst (.int .i64))) .nil))))))) (.cons (.ptr (.cons (.val (.int .i64)) (.cons (.val (.int .i64)) (.cons (.val (.lst t_api_Type)) (.cons (.val (.lst t_api_Slot)) (.cons (.val (.lst t_api_Sig)) .nil)))))) (.cons (.val .bool) .nil))), [], [2, 3, 6], [⟨.normal, [18, 2, 3], (.cons (.val .bool) (.cons (.ptr (.cons (.val (.int .i64)) (.cons (.val (.int .i64)) (.cons (.val (.int .i64)) (.cons (.val (.lst (.int .i64))) (.cons (.val (.lst (.int .i64))) (.cons (.val (.lst (.int .i64))) .nil))))))) (.cons (.ptr (.cons (.val (.int .i64)) (.cons (.val (.int .i64)) (.cons (.val (.lst t_api_Type)) (.cons (.val (.lst t_api_Slot)) (.cons (.val (.lst t_api_Sig)) .nil)))))) .nil))), [some 0, some 1]⟩], [], term_Check_j37x_v⟩
noncomputable def term_Check_ls1 : List (Nat × LCtr) := (60129542181, term_Check_j37x) :: term_Check_ls0
theorem term_Check_lsok1 : LsOK Try.prog Try.f114.ntmps term_Check_code term_Check_ls1 :=
  join_at (L := term_Check_j37x) (fz := term_Check_fz) term_Check_fsok term_Check_isok term_Check_lsok0 (by kernel_rfl) (by kernel_rfl) (fun x => by kernel_rfl)
noncomputable def term_Check_j37_v (x : ((Int × Int × Int × (List Int) × (List Int) × (List Int) × Unit) × (Int × Int × (List V_api_Type) × (List V_api_Slot) × (List V_api_Sig) × Unit) × ((Option (Int × Unit)) × Unit) × Bool × Unit)) : Option ((Bool × (Int × Int × Int × (List Int) × (List Int) × (List Int) × Unit) × (Int × Int × (List V_api_Type) × (List V_api_Slot) × (List V_api_Sig) × Unit) × Unit) ⊕ Empty) :=
  cond (x.2.2.2.1)
    (some (.inl (x.2.2.2.1, (x.1.1, x.1.2.1, x.1.2.2.1, x.1.2.2.2.1, x.1.2.2.2.2.1, x.1.2.2.2.2.2.1, ()), (x.2.1.1, x.2.1.2.1, x.2.1.2.2.1, x.2.1.2.2.2.1, x.2.1.2.2.2.2.1, ()), ())))
    (Option.bind (slices_ContainsFunc_128_p0 (x.1.2.2.2.2.1, (x.2.2.1.1, ()), ())) fun y6 => out1 y6
      (fun z7 =>
        Option.bind (term_Check_j37x_v ((x.1.1, x.1.2.1, x.1.2.2.1, x.1.2.2.2.1, x.1.2.2.2.2.1, x.1.2.2.2.2.2.1, ()), (x.2.1.1, x.2.1.2.1, x.2.1.2.2.1, x.2.1.2.2.2.1, x.2.1.2.2.2.2.1, ()), z7.1, ())) fun y11 => out1 y11
          (fun z12 =>
            some (.inl (z12.1, (z12.2.1.1, z12.2.1.2.1, z12.2.1.2.2.1, z12.2.1.2.2.2.1, z12.2.1.2.2.2.2.1, z12.2.1.2.2.2.2.2.1, ()), (z12.2.2.1.1, z12.2.2.1.2.1, z12.2.2.1.2.2.1, z12.2.2.1.2.2.2.1, z12.2.2.1.2.2.2.2.1, ()), ())))))
noncomputable def term_Check_j37 : LCtr := ⟨[2, 3, 6, 18], (.cons (.ptr (.cons (.val (.int .i64)) (.cons (.val (.int .i64)) (.cons (.val (.int .i64)) (.cons (.val (.lst (.int .i64))) (.cons (.val (.lst (.int .i64))) (.cons (.val (.lst (.int .i64))) .nil))))))) (.cons (.ptr (.cons (.val (.int .i64)) (.cons (.val (.int .i64)) (.cons (.val (.lst t_api_Type)) (.cons (.val (.lst t_api_Slot)) (.cons (.val (.lst t_api_Sig)) .nil)))))) (.cons (.clo 156 (.cons (.val (.ptr (.cons (.int .i64) .nil))) .nil)) (.cons (.val .bool) .nil)))), [], [2, 3, 6], [⟨.normal, [18, 2, 3], (.cons (.val .bool) (.cons (.ptr (.cons (.val (.int .i64)) (.cons (.val (.int .i64)) (.cons (.val (.int .i64)) (.cons (.val (.lst (.int .i64))) (.cons (.val (.lst (.int .i64))) (.cons (.val (.lst (.int .i64))) .nil))))))) (.cons (.ptr (.cons (.val (.int .i64)) (.cons (.val (.int .i64)) (.cons (.val (.lst t_api_Type)) (.cons (.val (.lst t_api_Slot)) (.cons (.val (.lst t_api_Sig)) .nil)))))) .nil))), [some 0, some 1]⟩], [], term_Check_j37_v⟩
noncomputable def term_Check_ls2 : List (Nat × LCtr) := (51539607589, term_Check_j37) :: term_Check_ls1
theorem term_Check_lsok2 : LsOK Try.prog Try.f114.ntmps term_Check_code term_Check_ls2 :=
  join_at (L := term_Check_j37) (fz := term_Check_fz) term_Check_fsok term_Check_isok term_Check_lsok1 (by kernel_rfl) (by kernel_rfl) (fun x => by kernel_rfl)
noncomputable def term_Check (x : (V_api_Term × V_term_Around × Unit)) : Option (Int × Unit) :=
  Option.bind (term_form ((x.1.1, x.1.2.1, x.1.2.2.1, x.1.2.2.2.1, x.1.2.2.2.2.1, x.1.2.2.2.2.2.1, ()), ())) fun y1 =>
  cond (y1.1 != (0 : Int))
    (some (y1.1, ()))
    (Option.bind (term_beyond ((x.2.1.2.2.1.length : Int), ())) fun y2 =>
    Option.bind (term_beyond (x.2.1.1, ())) fun y3 =>
    Option.bind (slices_ContainsFunc_128_p0 (x.1.2.2.2.1, (y3.1, ()), ())) fun y4 => out1 y4
      (fun z5 =>
        Option.bind (term_Check_j37_v ((x.1.1, x.1.2.1, x.1.2.2.1, x.1.2.2.2.1, x.1.2.2.2.2.1, x.1.2.2.2.2.2.1, ()), (x.2.1.1, x.2.1.2.1, x.2.1.2.2.1, x.2.1.2.2.2.1, x.2.1.2.2.2.2.1, ()), (y2.1, ()), z5.1, ())) fun y13 => out1 y13
          (fun z14 =>
            cond (z14.1)
              (some ((7 : Int), ()))
              (cond (z14.2.1.1 == (4 : Int))
                (Option.bind (term_beyond_1 (z14.2.1.2.2.1, y2.1, ())) fun y15 =>
                cond (!y15.1)
                  (Option.bind (term_beyond ((z14.2.2.1.2.2.2.2.1.length : Int), ())) fun y16 =>
                  Option.bind (term_beyond_1 (z14.2.1.2.1, y16.1, ())) fun y17 =>
                  cond (y17.1)
                    (some ((7 : Int), ()))
                    (cond (cond (z14.2.1.1 == (3 : Int)) ((z14.2.2.1.2.2.1.length : Int) == (0 : Int)) false)
                      (some ((14 : Int), ()))
                      (Option.bind (term_needs ((z14.2.1.1, z14.2.1.2.1, z14.2.1.2.2.1, z14.2.1.2.2.2.1, z14.2.1.2.2.2.2.1, z14.2.1.2.2.2.2.2.1, ()), (z14.2.2.1.1, z14.2.2.1.2.1, z14.2.2.1.2.2.1, z14.2.2.1.2.2.2.1, z14.2.2.1.2.2.2.2.1, ()), ())) fun y18 =>
                      some (y18.2.1, ()))))
                  (some ((7 : Int), ())))
                (cond (cond (z14.2.1.1 == (3 : Int)) ((z14.2.2.1.2.2.1.length : Int) == (0 : Int)) false)
                  (some ((14 : Int), ()))
                  (Option.bind (term_needs ((z14.2.1.1, z14.2.1.2.1, z14.2.1.2.2.1, z14.2.1.2.2.2.1, z14.2.1.2.2.2.2.1, z14.2.1.2.2.2.2.2.1, ()), (z14.2.2.1.1, z14.2.2.1.2.1, z14.2.2.1.2.2.1, z14.2.2.1.2.2.2.1, z14.2.2.1.2.2.2.2.1, ()), ())) fun y19 =>
                  some (y19.2.1, ())))))))
noncomputable def term_Check_c : Ctr := ⟨(.cons t_api_Term (.cons t_term_Around .nil)), (.cons (.int .i64) .nil), term_Check, none⟩
theorem term_Check_ok : CtrOK Try.prog 114 term_Check_c :=
  fun_at (fz := term_Check_fz) term_Check_fsok term_Check_isok Try.func114 (by kernel_rfl) (c := term_Check_code) (by kernel_rfl) term_Check_lsok2 (by kernel_rfl) (fun x => by kernel_rfl)
/-! ### (*easement/valid.checker).blocks: function 95, at objects -/
noncomputable def valid_checker_blocks_p0_code : Code := Try.f95.body.getD .skip
noncomputable def valid_checker_blocks_p0_fs : List (Nat × Ctr) := [(111, valid_some_c), (110, valid_many_c), (113, stmt_Check_c), (114, term_Check_c)]
noncomputable def valid_checker_blocks_p0_is : List (Nat × List PI) := [(109, [valid_checker_wrong_p0_c])]
theorem valid_checker_blocks_p0_fsok : FsOK Try.prog valid_checker_blocks_p0_fs := ⟨valid_some_ok, valid_many_ok, stmt_Check_ok, term_Check_ok, trivial⟩
theorem valid_checker_blocks_p0_isok : IsOK Try.prog valid_checker_blocks_p0_is := ⟨⟨valid_checker_wrong_p0_ok, trivial⟩, trivial⟩
def valid_checker_blocks_p0_fz : List (Nat × List Nat) := []
noncomputable def valid_checker_blocks_p0_ls0 : List (Nat × LCtr) := []
theorem valid_checker_blocks_p0_lsok0 : LsOK Try.prog Try.f95.ntmps valid_checker_blocks_p0_code valid_checker_blocks_p0_ls0 := trivial
noncomputable def valid_checker_blocks_p0_l8_step (g : ((Int × Int × (List V_easementref08_Pair) × (List V_api_Type) × (List V_api_Slot) × (List V_api_Sig) × (List V_api_Block) × Unit × Int × Int × Int × Int × Unit) × Int × (List V_api_Block) × Int × Int × Unit) → Option (((Int × Int × (List V_easementref08_Pair) × (List V_api_Type) × (List V_api_Slot) × (List V_api_Sig) × (List V_api_Block) × Unit × Int × Int × Int × Int × Unit) × Unit) ⊕ Empty)) (x : ((Int × Int × (List V_easementref08_Pair) × (List V_api_Type) × (List V_api_Slot) × (List V_api_Sig) × (List V_api_Block) × Unit × Int × Int × Int × Int × Unit) × Int × (List V_api_Block) × Int × Int × Unit)) : Option (((Int × Int × (List V_easementref08_Pair) × (List V_api_Type) × (List V_api_Slot) × (List V_api_Sig) × (List V_api_Block) × Unit × Int × Int × Int × Int × Unit) × Unit) ⊕ Empty) :=
  cond (decide (x.2.2.2.2.1 < x.2.2.2.1))
    (ck (inB x.2.2.2.2.1 (x.2.2.1.length)) <|
    let v1 := IntKind.i64.wrap (x.2.1 + ((rdL t_api_Block x.2.2.1 x.2.2.2.2.1).1.length : Int))
    Option.bind (valid_many (v1, ())) fun y4 =>
    Option.bind (valid_checker_wrong_p0 ((x.1.1, x.1.2.1, x.1.2.2.1, x.1.2.2.2.1, x.1.2.2.2.2.1, x.1.2.2.2.2.2.1, x.1.2.2.2.2.2.2.1, (), x.1.2.2.2.2.2.2.2.2.1, x.1.2.2.2.2.2.2.2.2.2.1, x.1.2.2.2.2.2.2.2.2.2.2.1, x.1.2.2.2.2.2.2.2.2.2.2.2.1, ()), y4.1, (5 : Int), x.2.2.2.2.1, (0 : Int), ())) fun y5 => out1 y5
      (fun z6 =>
        g ((z6.1.1, z6.1.2.1, z6.1.2.2.1, z6.1.2.2.2.1, z6.1.2.2.2.2.1, z6.1.2.2.2.2.2.1, z6.1.2.2.2.2.2.2.1, (), z6.1.2.2.2.2.2.2.2.2.1, z6.1.2.2.2.2.2.2.2.2.2.1, z6.1.2.2.2.2.2.2.2.2.2.2.1, z6.1.2.2.2.2.2.2.2.2.2.2.2.1, ()), v1, x.2.2.1, x.2.2.2.1, IntKind.i64.wrap (x.2.2.2.2.1 + (1 : Int)), ())))
    (some (.inl ((x.1.1, x.1.2.1, x.1.2.2.1, x.1.2.2.2.1, x.1.2.2.2.2.1, x.1.2.2.2.2.2.1, x.1.2.2.2.2.2.2.1, (), x.1.2.2.2.2.2.2.2.2.1, x.1.2.2.2.2.2.2.2.2.2.1, x.1.2.2.2.2.2.2.2.2.2.2.1, x.1.2.2.2.2.2.2.2.2.2.2.2.1, ()), ())))
noncomputable def valid_checker_blocks_p0_l8 : LCtr := ⟨[0, 3, 22, 23, 24], (.cons (.ptr (.cons (.val (.int .i64)) (.cons (.val (.int .i64)) (.cons (.val (.lst t_easementref08_Pair)) (.cons (.val (.lst t_api_Type)) (.cons (.val (.lst t_api_Slot)) (.cons (.val (.lst t_api_Sig)) (.cons (.val (.lst t_api_Block)) (.cons (.cst true) (.cons (.val (.int .i64)) (.cons (.val (.int .i64)) (.cons (.val (.int .i64)) (.cons (.val (.int .i64)) .nil))))))))))))) (.cons (.val (.int .i64)) (.cons (.val (.lst t_api_Block)) (.cons (.val (.int .i64)) (.cons (.val (.int .i64)) .nil))))), [some 0], [0, 2], [⟨(.exit 0), [0], (.cons (.ptr (.cons (.val (.int .i64)) (.cons (.val (.int .i64)) (.cons (.val (.lst t_easementref08_Pair)) (.cons (.val (.lst t_api_Type)) (.cons (.val (.lst t_api_Slot)) (.cons (.val (.lst t_api_Sig)) (.cons (.val (.lst t_api_Block)) (.cons (.cst true) (.cons (.val (.int .i64)) (.cons (.val (.int .i64)) (.cons (.val (.int .i64)) (.cons (.val (.int .i64)) .nil))))))))))))) .nil), [some 0]⟩], [], lim valid_checker_blocks_p0_l8_step⟩
noncomputable def valid_checker_blocks_p0_ls1 : List (Nat × LCtr) := (8, valid_checker_blocks_p0_l8) :: valid_checker_blocks_p0_ls0
theorem valid_checker_blocks_p0_lsok1 : LsOK Try.prog Try.f95.ntmps valid_checker_blocks_p0_code valid_checker_blocks_p0_ls1 :=
  loop_at (L := valid_checker_blocks_p0_l8) (fz := valid_checker_blocks_p0_fz) valid_checker_blocks_p0_fsok valid_checker_blocks_p0_isok valid_checker_blocks_p0_lsok0 (by kernel_rfl) (by kernel_rfl) (by kernel_rfl) (step := valid_checker_blocks_p0_l8_step) rfl (fun g x => by kernel_rfl)
noncomputable def valid_checker_blocks_p0_l28_step (g : ((Int × Int × (List V_easementref08_Pair) × (List V_api_Type) × (List V_api_Slot) × (List V_api_Sig) × (List V_api_Block) × Unit × Int × Int × Int × Int × Unit) × (Int × Int × (List V_easementref08_Pair) × (List V_api_Type) × (List V_api_Slot) × (List V_api_Sig) × (List V_api_Block) × Unit) × Int × (List V_api_Prov) × Int × Int × Unit) → Option (((Int × Int × (List V_easementref08_Pair) × (List V_api_Type) × (List V_api_Slot) × (List V_api_Sig) × (List V_api_Block) × Unit × Int × Int × Int × Int × Unit) × (Int × Int × (List V_easementref08_Pair) × (List V_api_Type) × (List V_api_Slot) × (List V_api_Sig) × (List V_api_Block) × Unit) × Unit) ⊕ Empty)) (x : ((Int × Int × (List V_easementref08_Pair) × (List V_api_Type) × (List V_api_Slot) × (List V_api_Sig) × (List V_api_Block) × Unit × Int × Int × Int × Int × Unit) × (Int × Int × (List V_easementref08_Pair) × (List V_api_Type) × (List V_api_Slot) × (List V_api_Sig) × (List V_api_Block) × Unit) × Int × (List V_api_Prov) × Int × Int × Unit)) : Option (((Int × Int × (List V_easementref08_Pair) × (List V_api_Type) × (List V_api_Slot) × (List V_api_Sig) × (List V_api_Block) × Unit × Int × Int × Int × Int × Unit) × (Int × Int × (List V_easementref08_Pair) × (List V_api_Type) × (List V_api_Slot) × (List V_api_Sig) × (List V_api_Block) × Unit) × Unit) ⊕ Empty) :=
  cond (decide (x.2.2.2.2.2.1 < x.2.2.2.2.1))
    (ck (inB x.2.2.2.2.2.1 (x.2.2.2.1.length)) <|
    let v1 := rdL t_api_Prov x.2.2.2.1 x.2.2.2.2.2.1
    Option.bind (stmt_Check ((v1.1, v1.2.1, v1.2.2.1, v1.2.2.2.1, v1.2.2.2.2.1, ()), x.2.1.2.2.2.1, x.2.1.2.1, ())) fun y9 =>
    Option.bind (valid_checker_wrong_p0 ((x.1.1, x.1.2.1, x.1.2.2.1, x.1.2.2.2.1, x.1.2.2.2.2.1, x.1.2.2.2.2.2.1, x.1.2.2.2.2.2.2.1, (), x.1.2.2.2.2.2.2.2.2.1, x.1.2.2.2.2.2.2.2.2.2.1, x.1.2.2.2.2.2.2.2.2.2.2.1, x.1.2.2.2.2.2.2.2.2.2.2.2.1, ()), y9.1, (6 : Int), x.2.2.1, x.2.2.2.2.2.1, ())) fun y10 => out1 y10
      (fun z11 =>
        g ((z11.1.1, z11.1.2.1, z11.1.2.2.1, z11.1.2.2.2.1, z11.1.2.2.2.2.1, z11.1.2.2.2.2.2.1, z11.1.2.2.2.2.2.2.1, (), z11.1.2.2.2.2.2.2.2.2.1, z11.1.2.2.2.2.2.2.2.2.2.1, z11.1.2.2.2.2.2.2.2.2.2.2.1, z11.1.2.2.2.2.2.2.2.2.2.2.2.1, ()), (x.2.1.1, x.2.1.2.1, x.2.1.2.2.1, x.2.1.2.2.2.1, x.2.1.2.2.2.2.1, x.2.1.2.2.2.2.2.1, x.2.1.2.2.2.2.2.2.1, ()), x.2.2.1, x.2.2.2.1, x.2.2.2.2.1, IntKind.i64.wrap (x.2.2.2.2.2.1 + (1 : Int)), ())))
    (some (.inl ((x.1.1, x.1.2.1, x.1.2.2.1, x.1.2.2.2.1, x.1.2.2.2.2.1, x.1.2.2.2.2.2.1, x.1.2.2.2.2.2.2.1, (), x.1.2.2.2.2.2.2.2.2.1, x.1.2.2.2.2.2.2.2.2.2.1, x.1.2.2.2.2.2.2.2.2.2.2.1, x.1.2.2.2.2.2.2.2.2.2.2.2.1, ()), (x.2.1.1, x.2.1.2.1, x.2.1.2.2.1, x.2.1.2.2.2.1, x.2.1.2.2.2.2.1, x.2.1.2.2.2.2.2.1, x.2.1.2.2.2.2.2.2.1, ()), ())))
noncomputable def valid_checker_blocks_p0_l28 : LCtr := ⟨[0, 2, 7, 61, 62, 63], (.cons (.ptr (.cons (.val (.int .i64)) (.cons (.val (.int .i64)) (.cons (.val (.lst t_easementref08_Pair)) (.cons (.val (.lst t_api_Type)) (.cons (.val (.lst t_api_Slot)) (.cons (.val (.lst t_api_Sig)) (.cons (.val (.lst t_api_Block)) (.cons (.cst true) (.cons (.val (.int .i64)) (.cons (.val (.int .i64)) (.cons (.val (.int .i64)) (.cons (.val (.int .i64)) .nil))))))))))))) (.cons (.ptr (.cons (.val (.int .i64)) (.cons (.val (.int .i64)) (.cons (.val (.lst t_easementref08_Pair)) (.cons (.val (.lst t_api_Type)) (.cons (.val (.lst t_api_Slot)) (.cons (.val (.lst t_api_Sig)) (.cons (.val (.lst t_api_Block)) .nil)))))))) (.cons (.val (.int .i64)) (.cons (.val (.lst t_api_Prov)) (.cons (.val (.int .i64)) (.cons (.val (.int .i64)) .nil)))))), [some 0, some 1], [0, 2, 6, 7, 8, 53, 54, 55], [⟨(.exit 4), [0, 2], (.cons (.ptr (.cons (.val (.int .i64)) (.cons (.val (.int .i64)) (.cons (.val (.lst t_easementref08_Pair)) (.cons (.val (.lst t_api_Type)) (.cons (.val (.lst t_api_Slot)) (.cons (.val (.lst t_api_Sig)) (.cons (.val (.lst t_api_Block)) (.cons (.cst true) (.cons (.val (.int .i64)) (.cons (.val (.int .i64)) (.cons (.val (.int .i64)) (.cons (.val (.int .i64)) .nil))))))))))))) (.cons (.ptr (.cons (.val (.int .i64)) (.cons (.val (.int .i64)) (.cons (.val (.lst t_easementref08_Pair)) (.cons (.val (.lst t_api_Type)) (.cons (.val (.lst t_api_Slot)) (.cons (.val (.lst t_api_Sig)) (.cons (.val (.lst t_api_Block)) .nil)))))))) .nil)), [some 0, some 1]⟩], [], lim valid_checker_blocks_p0_l28_step⟩
noncomputable def valid_checker_blocks_p0_ls2 : List (Nat × LCtr) := (28, valid_checker_blocks_p0_l28) :: valid_checker_blocks_p0_ls1
theorem valid_checker_blocks_p0_lsok2 : LsOK Try.prog Try.f95.ntmps valid_checker_blocks_p0_code valid_checker_blocks_p0_ls2 :=
  loop_at (L := valid_checker_blocks_p0_l28) (fz := valid_checker_blocks_p0_fz) valid_checker_blocks_p0_fsok valid_checker_blocks_p0_isok valid_checker_blocks_p0_lsok1 (by kernel_rfl) (by kernel_rfl) (by kernel_rfl) (step := valid_checker_blocks_p0_l28_step) rfl (fun g x => by kernel_rfl)
noncomputable def valid_checker_blocks_p0_l22_step (g : ((Int × Int × (List V_easementref08_Pair) × (List V_api_Type) × (List V_api_Slot) × (List V_api_Sig) × (List V_api_Block) × Unit × Int × Int × Int × Int × Unit) × (Int × Int × (List V_easementref08_Pair) × (List V_api_Type) × (List V_api_Slot) × (List V_api_Sig) × (List V_api_Block) × Unit) × (Int × Int × (List V_api_Type) × (List V_api_Slot) × (List V_api_Sig) × Unit) × (List V_api_Block) × Int × Int × Unit) → Option (((Int × Int × (List V_easementref08_Pair) × (List V_api_Type) × (List V_api_Slot) × (List V_api_Sig) × (List V_api_Block) × Unit × Int × Int × Int × Int × Unit) × (Int × Int × (List V_easementref08_Pair) × (List V_api_Type) × (List V_api_Slot) × (List V_api_Sig) × (List V_api_Block) × Unit) × (Int × Int × (List V_api_Type) × (List V_api_Slot) × (List V_api_Sig) × Unit) × Unit) ⊕ Empty)) (x : ((Int × Int × (List V_easementref08_Pair) × (List V_api_Type) × (List V_api_Slot) × (List V_api_Sig) × (List V_api_Block) × Unit × Int × Int × Int × Int × Unit) × (Int × Int × (List V_easementref08_Pair) × (List V_api_Type) × (List V_api_Slot) × (List V_api_Sig) × (List V_api_Block) × Unit) × (Int × Int × (List V_api_Type) × (List V_api_Slot) × (List V_api_Sig) × Unit) × (List V_api_Block) × Int × Int × Unit)) : Option (((Int × Int × (List V_easementref08_Pair) × (List V_api_Type) × (List V_api_Slot) × (List V_api_Sig) × (List V_api_Block) × Unit × Int × Int × Int × Int × Unit) × (Int × Int × (List V_easementref08_Pair) × (List V_api_Type) × (List V_api_Slot) × (List V_api_Sig) × (List V_api_Block) × Unit) × (Int × Int × (List V_api_Type) × (List V_api_Slot) × (List V_api_Sig) × Unit) × Unit) ⊕ Empty) :=
  cond (decide (x.2.2.2.2.2.1 < x.2.2.2.2.1))
    (ck (inB x.2.2.2.2.2.1 (x.2.2.2.1.length)) <|
    let v1 := rdL t_api_Block x.2.2.2.1 x.2.2.2.2.2.1
    Option.bind (lim valid_checker_blocks_p0_l28_step ((x.1.1, x.1.2.1, x.1.2.2.1, x.1.2.2.2.1, x.1.2.2.2.2.1, x.1.2.2.2.2.2.1, x.1.2.2.2.2.2.2.1, (), x.1.2.2.2.2.2.2.2.2.1, x.1.2.2.2.2.2.2.2.2.2.1, x.1.2.2.2.2.2.2.2.2.2.2.1, x.1.2.2.2.2.2.2.2.2.2.2.2.1, ()), (x.2.1.1, x.2.1.2.1, x.2.1.2.2.1, x.2.1.2.2.2.1, x.2.1.2.2.2.2.1, x.2.1.2.2.2.2.2.1, x.2.1.2.2.2.2.2.2.1, ()), x.2.2.2.2.2.1, v1.1, (v1.1.length : Int), (0 : Int), ())) fun y12 => out1 y12
      (fun z13 =>
        Option.bind (term_Check ((v1.2.1, v1.2.2.1, v1.2.2.2.1, v1.2.2.2.2.1, v1.2.2.2.2.2.1, v1.2.2.2.2.2.2.1, ()), (x.2.2.1.1, x.2.2.1.2.1, x.2.2.1.2.2.1, x.2.2.1.2.2.2.1, x.2.2.1.2.2.2.2.1, ()), ())) fun y14 =>
        Option.bind (valid_checker_wrong_p0 ((z13.1.1, z13.1.2.1, z13.1.2.2.1, z13.1.2.2.2.1, z13.1.2.2.2.2.1, z13.1.2.2.2.2.2.1, z13.1.2.2.2.2.2.2.1, (), z13.1.2.2.2.2.2.2.2.2.1, z13.1.2.2.2.2.2.2.2.2.2.1, z13.1.2.2.2.2.2.2.2.2.2.2.1, z13.1.2.2.2.2.2.2.2.2.2.2.2.1, ()), y14.1, (7 : Int), x.2.2.2.2.2.1, (0 : Int), ())) fun y15 => out1 y15
          (fun z16 =>
            g ((z16.1.1, z16.1.2.1, z16.1.2.2.1, z16.1.2.2.2.1, z16.1.2.2.2.2.1, z16.1.2.2.2.2.2.1, z16.1.2.2.2.2.2.2.1, (), z16.1.2.2.2.2.2.2.2.2.1, z16.1.2.2.2.2.2.2.2.2.2.1, z16.1.2.2.2.2.2.2.2.2.2.2.1, z16.1.2.2.2.2.2.2.2.2.2.2.2.1, ()), (z13.2.1.1, z13.2.1.2.1, z13.2.1.2.2.1, z13.2.1.2.2.2.1, z13.2.1.2.2.2.2.1, z13.2.1.2.2.2.2.2.1, z13.2.1.2.2.2.2.2.2.1, ()), (x.2.2.1.1, x.2.2.1.2.1, x.2.2.1.2.2.1, x.2.2.1.2.2.2.1, x.2.2.1.2.2.2.2.1, ()), x.2.2.2.1, x.2.2.2.2.1, IntKind.i64.wrap (x.2.2.2.2.2.1 + (1 : Int)), ()))))
    (some (.inl ((x.1.1, x.1.2.1, x.1.2.2.1, x.1.2.2.2.1, x.1.2.2.2.2.1, x.1.2.2.2.2.2.1, x.1.2.2.2.2.2.2.1, (), x.1.2.2.2.2.2.2.2.2.1, x.1.2.2.2.2.2.2.2.2.2.1, x.1.2.2.2.2.2.2.2.2.2.2.1, x.1.2.2.2.2.2.2.2.2.2.2.2.1, ()), (x.2.1.1, x.2.1.2.1, x.2.1.2.2.1, x.2.1.2.2.2.1, x.2.1.2.2.2.2.1, x.2.1.2.2.2.2.2.1, x.2.1.2.2.2.2.2.2.1, ()), (x.2.2.1.1, x.2.2.1.2.1, x.2.2.1.2.2.1, x.2.2.1.2.2.2.1, x.2.2.1.2.2.2.2.1, ()), ())))
noncomputable def valid_checker_blocks_p0_l22 : LCtr := ⟨[0, 2, 6, 53, 54, 55], (.cons (.ptr (.cons (.val (.int .i64)) (.cons (.val (.int .i64)) (.cons (.val (.lst t_easementref08_Pair)) (.cons (.val (.lst t_api_Type)) (.cons (.val (.lst t_api_Slot)) (.cons (.val (.lst t_api_Sig)) (.cons (.val (.lst t_api_Block)) (.cons (.cst true) (.cons (.val (.int .i64)) (.cons (.val (.int .i64)) (.cons (.val (.int .i64)) (.cons (.val (.int .i64)) .nil))))))))))))) (.cons (.ptr (.cons (.val (.int .i64)) (.cons (.val (.int .i64)) (.cons (.val (.lst t_easementref08_Pair)) (.cons (.val (.lst t_api_Type)) (.cons (.val (.lst t_api_Slot)) (.cons (.val (.lst t_api_Sig)) (.cons (.val (.lst t_api_Block)) .nil)))))))) (.cons (.ptr (.cons (.val (.int .i64)) (.cons (.val (.int .i64)) (.cons (.val (.lst t_api_Type)) (.cons (.val (.lst t_api_Slot)) (.cons (.val (.lst t_api_Sig)) .nil)))))) (.cons (.val (.lst t_api_Block)) (.cons (.val (.int .i64)) (.cons (.val (.int .i64)) .nil)))))), [some 0, some 1, some 2], [0], [⟨(.exit 2), [0, 2, 6], (.cons (.ptr (.cons (.val (.int .i64)) (.cons (.val (.int .i64)) (.cons (.val (.lst t_easementref08_Pair)) (.cons (.val (.lst t_api_Type)) (.cons (.val (.lst t_api_Slot)) (.cons (.val (.lst t_api_Sig)) (.cons (.val (.lst t_api_Block)) (.cons (.cst true) (.cons (.val (.int .i64)) (.cons (.val (.int .i64)) (.cons (.val (.int .i64)) (.cons (.val (.int .i64)) .nil))))))))))))) (.cons (.ptr (.cons (.val (.int .i64)) (.cons (.val (.int .i64)) (.cons (.val (.lst t_easementref08_Pair)) (.cons (.val (.lst t_api_Type)) (.cons (.val (.lst t_api_Slot)) (.cons (.val (.lst t_api_Sig)) (.cons (.val (.lst t_api_Block)) .nil)))))))) (.cons (.ptr (.cons (.val (.int .i64)) (.cons (.val (.int .i64)) (.cons (.val (.lst t_api_Type)) (.cons (.val (.lst t_api_Slot)) (.cons (.val (.lst t_api_Sig)) .nil)))))) .nil))), [some 0, some 1, some 2]⟩], [], lim valid_checker_blocks_p0_l22_step⟩
noncomputable def valid_checker_blocks_p0_ls3 : List (Nat × LCtr) := (22, valid_checker_blocks_p0_l22) :: valid_checker_blocks_p0_ls2
theorem valid_checker_blocks_p0_lsok3 : LsOK Try.prog Try.f95.ntmps valid_checker_blocks_p0_code valid_checker_blocks_p0_ls3 :=
  loop_at (L := valid_checker_blocks_p0_l22) (fz := valid_checker_blocks_p0_fz) valid_checker_blocks_p0_fsok valid_checker_blocks_p0_isok valid_checker_blocks_p0_lsok2 (by kernel_rfl) (by kernel_rfl) (by kernel_rfl) (step := valid_checker_blocks_p0_l22_step) rfl (fun g x => by kernel_rfl)
noncomputable def valid_checker_blocks_p0 (x : ((Int × Int × (List V_easementref08_Pair) × (List V_api_Type) × (List V_api_Slot) × (List V_api_Sig) × (List V_api_Block) × Unit × Int × Int × Int × Int × Unit) × Unit)) : Option (((Int × Int × (List V_easementref08_Pair) × (List V_api_Type) × (List V_api_Slot) × (List V_api_Sig) × (List V_api_Block) × Unit × Int × Int × Int × Int × Unit) × Unit) ⊕ Empty) :=
  Option.bind (valid_some ((x.1.2.2.2.2.2.2.1.length : Int), ())) fun y1 =>
  Option.bind (valid_checker_wrong_p0 ((x.1.1, x.1.2.1, x.1.2.2.1, x.1.2.2.2.1, x.1.2.2.2.2.1, x.1.2.2.2.2.2.1, x.1.2.2.2.2.2.2.1, (), x.1.2.2.2.2.2.2.2.2.1, x.1.2.2.2.2.2.2.2.2.2.1, x.1.2.2.2.2.2.2.2.2.2.2.1, x.1.2.2.2.2.2.2.2.2.2.2.2.1, ()), y1.1, (5 : Int), (0 : Int), (0 : Int), ())) fun y2 => out1 y2
    (fun z3 =>
      Option.bind (lim valid_checker_blocks_p0_l8_step ((z3.1.1, z3.1.2.1, z3.1.2.2.1, z3.1.2.2.2.1, z3.1.2.2.2.2.1, z3.1.2.2.2.2.2.1, z3.1.2.2.2.2.2.2.1, (), z3.1.2.2.2.2.2.2.2.2.1, z3.1.2.2.2.2.2.2.2.2.2.1, z3.1.2.2.2.2.2.2.2.2.2.2.1, z3.1.2.2.2.2.2.2.2.2.2.2.2.1, ()), (0 : Int), x.1.2.2.2.2.2.2.1, (x.1.2.2.2.2.2.2.1.length : Int), (0 : Int), ())) fun y7 => out1 y7
        (fun z8 =>
          Option.bind (lim valid_checker_blocks_p0_l22_step ((z8.1.1, z8.1.2.1, z8.1.2.2.1, z8.1.2.2.2.1, z8.1.2.2.2.2.1, z8.1.2.2.2.2.2.1, z8.1.2.2.2.2.2.2.1, (), z8.1.2.2.2.2.2.2.2.2.1, z8.1.2.2.2.2.2.2.2.2.2.1, z8.1.2.2.2.2.2.2.2.2.2.2.1, z8.1.2.2.2.2.2.2.2.2.2.2.2.1, ()), (x.1.1, x.1.2.1, x.1.2.2.1, x.1.2.2.2.1, x.1.2.2.2.2.1, x.1.2.2.2.2.2.1, x.1.2.2.2.2.2.2.1, ()), ((x.1.2.2.2.2.2.2.1.length : Int), x.1.2.1, x.1.2.2.2.1, x.1.2.2.2.2.1, x.1.2.2.2.2.2.1, ()), x.1.2.2.2.2.2.2.1, (x.1.2.2.2.2.2.2.1.length : Int), (0 : Int), ())) fun y17 => out1 y17
            (fun z18 =>
              some (.inl ((z18.1.1, z18.1.2.1, z18.1.2.2.1, z18.1.2.2.2.1, z18.1.2.2.2.2.1, z18.1.2.2.2.2.2.1, z18.1.2.2.2.2.2.2.1, (), z18.1.2.2.2.2.2.2.2.2.1, z18.1.2.2.2.2.2.2.2.2.2.1, z18.1.2.2.2.2.2.2.2.2.2.2.1, z18.1.2.2.2.2.2.2.2.2.2.2.2.1, ()), ())))))
noncomputable def valid_checker_blocks_p0_L : LCtr := ⟨[0], (.cons (.ptr (.cons (.val (.int .i64)) (.cons (.val (.int .i64)) (.cons (.val (.lst t_easementref08_Pair)) (.cons (.val (.lst t_api_Type)) (.cons (.val (.lst t_api_Slot)) (.cons (.val (.lst t_api_Sig)) (.cons (.val (.lst t_api_Block)) (.cons (.cst true) (.cons (.val (.int .i64)) (.cons (.val (.int .i64)) (.cons (.val (.int .i64)) (.cons (.val (.int .i64)) .nil))))))))))))) .nil), [], [], [⟨.normal, [0], (.cons (.ptr (.cons (.val (.int .i64)) (.cons (.val (.int .i64)) (.cons (.val (.lst t_easementref08_Pair)) (.cons (.val (.lst t_api_Type)) (.cons (.val (.lst t_api_Slot)) (.cons (.val (.lst t_api_Sig)) (.cons (.val (.lst t_api_Block)) (.cons (.cst true) (.cons (.val (.int .i64)) (.cons (.val (.int .i64)) (.cons (.val (.int .i64)) (.cons (.val (.int .i64)) .nil))))))))))))) .nil), [some 0]⟩], [], valid_checker_blocks_p0⟩
noncomputable def valid_checker_blocks_p0_c : PI := ⟨Try.f95.ntmps, valid_checker_blocks_p0_code, Try.f95.results.toList, valid_checker_blocks_p0_L⟩
theorem valid_checker_blocks_p0_ok : PIOK Try.prog 95 valid_checker_blocks_p0_c :=
  proc_at (L := valid_checker_blocks_p0_L) (fz := valid_checker_blocks_p0_fz) valid_checker_blocks_p0_fsok valid_checker_blocks_p0_isok Try.func95 (by kernel_rfl) (by kernel_rfl) valid_checker_blocks_p0_lsok3 (by kernel_rfl) (fun x => by kernel_rfl)
/-! ### easement/valid.Check: function 57, at objects -/
noncomputable def valid_Check_p0_code : Code := Try.f57.body.getD .skip
noncomputable def valid_Check_p0_fs : List (Nat × Ctr) := []
noncomputable def valid_Check_p0_is : List (Nat × List PI) := [(93, [valid_checker_head_p0_c]), (94, [valid_checker_types_p0_c]), (95, [valid_checker_blocks_p0_c])]
theorem valid_Check_p0_fsok : FsOK Try.prog valid_Check_p0_fs := trivial
theorem valid_Check_p0_isok : IsOK Try.prog valid_Check_p0_is := ⟨⟨valid_checker_head_p0_ok, trivial⟩, ⟨valid_checker_types_p0_ok, trivial⟩, ⟨valid_checker_blocks_p0_ok, trivial⟩, trivial⟩
def valid_Check_p0_fz : List (Nat × List Nat) := []
noncomputable def valid_Check_p0_ls0 : List (Nat × LCtr) := []
theorem valid_Check_p0_lsok0 : LsOK Try.prog Try.f57.ntmps valid_Check_p0_code valid_Check_p0_ls0 := trivial
noncomputable def valid_Check_p0 (x : (V_api_Body × Unit × Unit)) : Option (((Int × Int × Int × Int × Unit) × Unit) ⊕ Empty) :=
  Option.bind (valid_checker_head_p0 ((x.1.1, x.1.2.1, x.1.2.2.1, x.1.2.2.2.1, x.1.2.2.2.2.1, x.1.2.2.2.2.2.1, x.1.2.2.2.2.2.2.1, (), (0 : Int), (0 : Int), (0 : Int), (0 : Int), ()), ())) fun y1 => out1 y1
    (fun z2 =>
      Option.bind (valid_checker_types_p0 ((z2.1.1, z2.1.2.1, z2.1.2.2.1, z2.1.2.2.2.1, z2.1.2.2.2.2.1, z2.1.2.2.2.2.2.1, z2.1.2.2.2.2.2.2.1, (), z2.1.2.2.2.2.2.2.2.2.1, z2.1.2.2.2.2.2.2.2.2.2.1, z2.1.2.2.2.2.2.2.2.2.2.2.1, z2.1.2.2.2.2.2.2.2.2.2.2.2.1, ()), ())) fun y3 => out1 y3
        (fun z4 =>
          Option.bind (valid_checker_blocks_p0 ((z4.1.1, z4.1.2.1, z4.1.2.2.1, z4.1.2.2.2.1, z4.1.2.2.2.2.1, z4.1.2.2.2.2.2.1, z4.1.2.2.2.2.2.2.1, (), z4.1.2.2.2.2.2.2.2.2.1, z4.1.2.2.2.2.2.2.2.2.2.1, z4.1.2.2.2.2.2.2.2.2.2.2.1, z4.1.2.2.2.2.2.2.2.2.2.2.2.1, ()), ())) fun y5 => out1 y5
            (fun z6 =>
              some (.inl ((z6.1.2.2.2.2.2.2.2.2.1, z6.1.2.2.2.2.2.2.2.2.2.1, z6.1.2.2.2.2.2.2.2.2.2.2.1, z6.1.2.2.2.2.2.2.2.2.2.2.2.1, ()), ())))))
noncomputable def valid_Check_p0_L : LCtr := ⟨[0, 1], (.cons (.val t_api_Body) (.cons (.cst true) .nil)), [], [], [⟨.ret, [4], (.cons (.ptr (.cons (.val (.int .i64)) (.cons (.val (.int .i64)) (.cons (.val (.int .i64)) (.cons (.val (.int .i64)) .nil))))) .nil), [none]⟩], [], valid_Check_p0⟩
noncomputable def valid_Check_p0_c : PI := ⟨Try.f57.ntmps, valid_Check_p0_code, Try.f57.results.toList, valid_Check_p0_L⟩
theorem valid_Check_p0_ok : PIOK Try.prog 57 valid_Check_p0_c :=
  proc_at (L := valid_Check_p0_L) (fz := valid_Check_p0_fz) valid_Check_p0_fsok valid_Check_p0_isok Try.func57 (by kernel_rfl) (by kernel_rfl) valid_Check_p0_lsok0 (by kernel_rfl) (fun x => by kernel_rfl)
/-! ### easement/valid.OK: function 55 -/
noncomputable def valid_OK_code : Code := Try.f55.body.getD .skip
noncomputable def valid_OK_fs : List (Nat × Ctr) := []
noncomputable def valid_OK_is : List (Nat × List PI) := [(57, [valid_Check_p0_c])]
theorem valid_OK_fsok : FsOK Try.prog valid_OK_fs := trivial
theorem valid_OK_isok : IsOK Try.prog valid_OK_is := ⟨⟨valid_Check_p0_ok, trivial⟩, trivial⟩
def valid_OK_fz : List (Nat × List Nat) := []
noncomputable def valid_OK_ls0 : List (Nat × LCtr) := []
theorem valid_OK_lsok0 : LsOK Try.prog Try.f55.ntmps valid_OK_code valid_OK_ls0 := trivial
noncomputable def valid_OK (x : (V_api_Body × Unit)) : Option (Bool × Unit) :=
  Option.bind (valid_Check_p0 ((x.1.1, x.1.2.1, x.1.2.2.1, x.1.2.2.2.1, x.1.2.2.2.2.1, x.1.2.2.2.2.2.1, x.1.2.2.2.2.2.2.1, ()), (), ())) fun y1 => out1 y1
    (fun z2 =>
      some (z2.1.1 == (0 : Int), ()))
noncomputable def valid_OK_c : Ctr := ⟨(.cons t_api_Body .nil), (.cons .bool .nil), valid_OK, none⟩
theorem valid_OK_ok : CtrOK Try.prog 55 valid_OK_c :=
  fun_at (fz := valid_OK_fz) valid_OK_fsok valid_OK_isok Try.func55 (by kernel_rfl) (c := valid_OK_code) (by kernel_rfl) valid_OK_lsok0 (by kernel_rfl) (fun x => by kernel_rfl)
/-! ### (easement/api.Errno).Error: function 63 -/
noncomputable def api_Errno_Error_code : Code := Try.f63.body.getD .skip
noncomputable def api_Errno_Error_fs : List (Nat × Ctr) := []
noncomputable def api_Errno_Error_is : List (Nat × List PI) := []
theorem api_Errno_Error_fsok : FsOK Try.prog api_Errno_Error_fs := trivial
theorem api_Errno_Error_isok : IsOK Try.prog api_Errno_Error_is := trivial
def api_Errno_Error_fz : List (Nat × List Nat) := []
noncomputable def api_Errno_Error_ls0 : List (Nat × LCtr) := []
theorem api_Errno_Error_lsok0 : LsOK Try.prog Try.f63.ntmps api_Errno_Error_code api_Errno_Error_ls0 := trivial
noncomputable def api_Errno_Error (x : (Int × Unit)) : Option (ByteArray × Unit) :=
  cond (cond (decide (x.1 < (0 : Int))) true (decide (x.1 ≥ (16 : Int))))
    (some ((⟨#[63]⟩ : ByteArray), ()))
    (ck (inB x.1 16) <|
    some (([(⟨#[111, 107]⟩ : ByteArray), (⟨#[110, 105, 108]⟩ : ByteArray), (⟨#[97, 114, 103, 117, 109, 101, 110, 116]⟩ : ByteArray), (⟨#[102, 111, 114, 109]⟩ : ByteArray), (⟨#[115, 104, 111, 114, 116]⟩ : ByteArray), (⟨#[111, 118, 101, 114]⟩ : ByteArray), (⟨#[109, 97, 110, 121]⟩ : ByteArray), (⟨#[114, 97, 110, 103, 101]⟩ : ByteArray), (⟨#[115, 104, 97, 112, 101]⟩ : ByteArray), (⟨#[115, 116, 97, 116, 101]⟩ : ByteArray), (⟨#[102, 117, 108, 108]⟩ : ByteArray), (⟨#[110, 111, 110, 101]⟩ : ByteArray), (⟨#[104, 101, 97, 100]⟩ : ByteArray), (⟨#[109, 111, 114, 101]⟩ : ByteArray), (⟨#[109, 105, 115, 115, 105, 110, 103]⟩ : ByteArray), (⟨#[119, 114, 111, 110, 103]⟩ : ByteArray)] : List ByteArray).getD x.1.toNat (Ty.dflt .str), ()))
noncomputable def api_Errno_Error_c : Ctr := ⟨(.cons (.int .i64) .nil), (.cons .str .nil), api_Errno_Error, none⟩
theorem api_Errno_Error_ok : CtrOK Try.prog 63 api_Errno_Error_c :=
  fun_at (fz := api_Errno_Error_fz) api_Errno_Error_fsok api_Errno_Error_isok Try.func63 (by kernel_rfl) (c := api_Errno_Error_code) (by kernel_rfl) api_Errno_Error_lsok0 (by kernel_rfl) (fun x => by kernel_rfl)
/-! ### easement/valid.Text: function 61 -/
noncomputable def valid_Text_code : Code := Try.f61.body.getD .skip
noncomputable def valid_Text_fs : List (Nat × Ctr) := [(63, api_Errno_Error_c)]
noncomputable def valid_Text_is : List (Nat × List PI) := []
theorem valid_Text_fsok : FsOK Try.prog valid_Text_fs := ⟨api_Errno_Error_ok, trivial⟩
theorem valid_Text_isok : IsOK Try.prog valid_Text_is := trivial
def valid_Text_fz : List (Nat × List Nat) := []
noncomputable def valid_Text_ls0 : List (Nat × LCtr) := []
theorem valid_Text_lsok0 : LsOK Try.prog Try.f61.ntmps valid_Text_code valid_Text_ls0 := trivial
noncomputable def valid_Text (x : (V_valid_Fault × Unit)) : Option (ByteArray × Unit) :=
  let v1 := [(⟨#[104, 101, 97, 100]⟩ : ByteArray), (⟨#[98, 111, 117, 110, 100]⟩ : ByteArray), (⟨#[108, 111, 99, 97, 108]⟩ : ByteArray), (⟨#[114, 101, 116, 117, 114, 110]⟩ : ByteArray), (⟨#[115, 105, 103, 110, 97, 116, 117, 114, 101]⟩ : ByteArray), (⟨#[98, 108, 111, 99, 107]⟩ : ByteArray), (⟨#[115, 116, 97, 116, 101, 109, 101, 110, 116]⟩ : ByteArray), (⟨#[116, 101, 114, 109, 105, 110, 97, 116, 111, 114]⟩ : ByteArray)]
  cond (cond (cond (x.1.1 == (0 : Int)) true (decide (x.1.2.1 < (0 : Int)))) true (decide (x.1.2.1 ≥ (v1.length : Int))))
    (Option.bind (api_Errno_Error (x.1.1, ())) fun y1 =>
    some (y1.1, ()))
    (ck (inB x.1.2.1 (v1.length)) <|
    let v2 := v1.getD x.1.2.1.toNat (Ty.dflt .str)
    let v3 := (⟨#[58, 32]⟩ : ByteArray)
    ck (decide (v2.size + v3.size ≤ 140737488355328)) <|
    Option.bind (api_Errno_Error (x.1.1, ())) fun y2 =>
    ck (decide ((v2 ++ v3).size + y2.1.size ≤ 140737488355328)) <|
    some ((v2 ++ v3) ++ y2.1, ()))
noncomputable def valid_Text_c : Ctr := ⟨(.cons t_valid_Fault .nil), (.cons .str .nil), valid_Text, none⟩
theorem valid_Text_ok : CtrOK Try.prog 61 valid_Text_c :=
  fun_at (fz := valid_Text_fz) valid_Text_fsok valid_Text_isok Try.func61 (by kernel_rfl) (c := valid_Text_code) (by kernel_rfl) valid_Text_lsok0 (by kernel_rfl) (fun x => by kernel_rfl)
/-! ### easement/easementlaw21.awake: function 56 -/
noncomputable def law21_awake_code : Code := Try.f56.body.getD .skip
noncomputable def law21_awake_fs : List (Nat × Ctr) := [(55, valid_OK_c), (61, valid_Text_c)]
noncomputable def law21_awake_is : List (Nat × List PI) := [(57, [valid_Check_p0_c])]
theorem law21_awake_fsok : FsOK Try.prog law21_awake_fs := ⟨valid_OK_ok, valid_Text_ok, trivial⟩
theorem law21_awake_isok : IsOK Try.prog law21_awake_is := ⟨⟨valid_Check_p0_ok, trivial⟩, trivial⟩
def law21_awake_fz : List (Nat × List Nat) := []
noncomputable def law21_awake_ls0 : List (Nat × LCtr) := []
theorem law21_awake_lsok0 : LsOK Try.prog Try.f56.ntmps law21_awake_code law21_awake_ls0 := trivial
noncomputable def law21_awake (x : Unit) : Option (Bool × Unit) :=
  Option.bind (valid_Check_p0 (((0 : Int), (0 : Int), ([] : List V_easementref08_Pair), ([] : List V_api_Type), ([] : List V_api_Slot), ([] : List V_api_Sig), ([] : List V_api_Block), ()), (), ())) fun y1 => out1 y1
    (fun z2 =>
      Option.bind (valid_Check_p0 (((1 : Int), (1 : Int), ([] : List V_easementref08_Pair), ([] : List V_api_Type), ([] : List V_api_Slot), ([] : List V_api_Sig), ([] : List V_api_Block), ()), (), ())) fun y3 => out1 y3
        (fun z4 =>
          cond (cond (cond (cond (z2.1.1 == (7 : Int)) (z2.1.2.1 == (0 : Int)) false) (z4.1.1 == (14 : Int)) false) (z4.1.2.1 == (2 : Int)) false)
            (Option.bind (valid_OK (((1 : Int), (1 : Int), ([] : List V_easementref08_Pair), [(([] : List V_api_Slot), ())], ([] : List V_api_Slot), ([] : List V_api_Sig), [(([] : List V_api_Prov), (3 : Int), (0 : Int), (0 : Int), ([] : List Int), ([] : List Int), ([] : List Int), ())], ()), ())) fun y5 =>
            cond (y5.1)
              (Option.bind (valid_Text ((z4.1.1, z4.1.2.1, z4.1.2.2.1, z4.1.2.2.2.1, ()), ())) fun y6 =>
              some (y6.1.toList == (⟨#[108, 111, 99, 97, 108, 58, 32, 109, 105, 115, 115, 105, 110, 103]⟩ : ByteArray).toList, ()))
              (some (false, ())))
            (some (false, ()))))
noncomputable def law21_awake_c : Ctr := ⟨.nil, (.cons .bool .nil), law21_awake, none⟩
theorem law21_awake_ok : CtrOK Try.prog 56 law21_awake_c :=
  fun_at (fz := law21_awake_fz) law21_awake_fsok law21_awake_isok Try.func56 (by kernel_rfl) (c := law21_awake_code) (by kernel_rfl) law21_awake_lsok0 (by kernel_rfl) (fun x => by kernel_rfl)
/-! ### easement/easementlaw21.ValidStays: function 9 -/
noncomputable def law21_ValidStays_code : Code := Try.f9.body.getD .skip
noncomputable def law21_ValidStays_fs : List (Nat × Ctr) := [(53, ref20_Small_c), (54, ref21_OK_c), (55, valid_OK_c), (56, law21_awake_c)]
noncomputable def law21_ValidStays_is : List (Nat × List PI) := []
theorem law21_ValidStays_fsok : FsOK Try.prog law21_ValidStays_fs := ⟨ref20_Small_ok, ref21_OK_ok, valid_OK_ok, law21_awake_ok, trivial⟩
theorem law21_ValidStays_isok : IsOK Try.prog law21_ValidStays_is := trivial
def law21_ValidStays_fz : List (Nat × List Nat) := []
noncomputable def law21_ValidStays_ls0 : List (Nat × LCtr) := []
theorem law21_ValidStays_lsok0 : LsOK Try.prog Try.f9.ntmps law21_ValidStays_code law21_ValidStays_ls0 := trivial
noncomputable def law21_ValidStays (x : (V_api_Body × V_easementref08_Pair × Int × Int × Unit)) : Option (Bool × Unit) :=
  Option.bind (ref20_Small ((x.1.1, x.1.2.1, x.1.2.2.1, x.1.2.2.2.1, x.1.2.2.2.2.1, x.1.2.2.2.2.2.1, x.1.2.2.2.2.2.2.1, ()), ())) fun y1 =>
  cond (!(!y1.1))
    (Option.bind (ref21_OK ((x.1.1, x.1.2.1, x.1.2.2.1, x.1.2.2.2.1, x.1.2.2.2.2.1, x.1.2.2.2.2.2.1, x.1.2.2.2.2.2.2.1, ()), ())) fun y2 =>
    cond (!y2.1)
      (Option.bind (valid_OK ((x.1.1, x.1.2.1, x.1.2.2.1, x.1.2.2.2.1, x.1.2.2.2.2.1, x.1.2.2.2.2.2.1, x.1.2.2.2.2.2.2.1, ()), ())) fun y3 =>
      Option.bind (ref21_OK ((x.1.1, x.1.2.1, x.1.2.2.1, x.1.2.2.2.1, x.1.2.2.2.2.1, x.1.2.2.2.2.2.1, x.1.2.2.2.2.2.2.1, ()), ())) fun y4 =>
      cond (y3.1 == y4.1)
        (Option.bind (law21_awake ()) fun y5 =>
        some (y5.1, ()))
        (some (false, ())))
      (let v1 := ([] : List V_easementref08_Pair) ++ x.1.2.2.1
      ck (roomB v1.length 19) <|
      let v2 := [(x.2.1.1, x.2.1.2.1, ())]
      ck (roomB (v1 ++ v2).length 19) <|
      Option.bind (valid_OK ((x.1.1, x.1.2.1, v1 ++ v2, x.1.2.2.2.1, x.1.2.2.2.2.1, x.1.2.2.2.2.2.1, x.1.2.2.2.2.2.2.1, ()), ())) fun y6 =>
      cond (!(y6.1 == (cond (cond (cond (decide (x.2.1.1 ≥ (0 : Int))) (decide (x.2.1.1 < x.1.1)) false) (decide (x.2.1.2.1 ≥ (0 : Int))) false) (decide (x.2.1.2.1 < x.1.1)) false)))
        (some (false, ()))
        (let v3 := cond (cond (decide (x.2.2.1 < (0 : Int))) true (decide (x.2.2.1 ≥ (x.1.2.2.2.2.2.2.1.length : Int)))) true (decide (x.2.2.2.1 < (0 : Int)))
        ck ((inB x.2.2.1 (x.1.2.2.2.2.2.2.1.length)) || !(!v3)) <|
        cond (cond v3 true (decide (x.2.2.2.1 ≥ ((rdL t_api_Block x.1.2.2.2.2.2.2.1 x.2.2.1).1.length : Int))))
          (Option.bind (valid_OK ((x.1.1, x.1.2.1, x.1.2.2.1, x.1.2.2.2.1, x.1.2.2.2.2.1, x.1.2.2.2.2.2.1, x.1.2.2.2.2.2.2.1, ()), ())) fun y7 =>
          cond (y7.1)
            (Option.bind (law21_awake ()) fun y8 =>
            some (y8.1, ()))
            (some (false, ())))
          (let v4 := ([] : List V_api_Block) ++ x.1.2.2.2.2.2.2.1
          ck (roomB v4.length 128) <|
          ck (inB x.2.2.1 (x.1.2.2.2.2.2.2.1.length)) <|
          let v5 := (rdL t_api_Block x.1.2.2.2.2.2.2.1 x.2.2.1).1
          ck (decide (0 ≤ x.2.2.2.1) && decide (x.2.2.2.1 ≤ v5.length)) <|
          let v6 := ([] : List V_api_Prov) ++ (v5.take x.2.2.2.1.toNat)
          ck (roomB v6.length 46) <|
          let v7 := IntKind.i64.wrap (x.2.2.2.1 + (1 : Int))
          ck (decide (0 ≤ v7) && decide (v7 ≤ v5.length)) <|
          ck (roomB (v6 ++ (v5.drop v7.toNat)).length 46) <|
          ck (inB x.2.2.1 (v4.length)) <|
          Option.bind (valid_OK ((x.1.1, x.1.2.1, x.1.2.2.1, x.1.2.2.2.1, x.1.2.2.2.2.1, x.1.2.2.2.2.2.1, v4.set x.2.2.1.toNat (v6 ++ (v5.drop v7.toNat), (v4.getD x.2.2.1.toNat (Ty.dflt t_api_Block)).2), ()), ())) fun y9 =>
          cond (y9.1)
            (Option.bind (law21_awake ()) fun y10 =>
            some (y10.1, ()))
            (some (false, ()))))))
    (Option.bind (valid_OK ((x.1.1, x.1.2.1, x.1.2.2.1, x.1.2.2.2.1, x.1.2.2.2.2.1, x.1.2.2.2.2.2.1, x.1.2.2.2.2.2.2.1, ()), ())) fun y11 =>
    Option.bind (ref21_OK ((x.1.1, x.1.2.1, x.1.2.2.1, x.1.2.2.2.1, x.1.2.2.2.2.1, x.1.2.2.2.2.2.1, x.1.2.2.2.2.2.2.1, ()), ())) fun y12 =>
    cond (y11.1 == y12.1)
      (Option.bind (law21_awake ()) fun y13 =>
      some (y13.1, ()))
      (some (false, ())))
noncomputable def law21_ValidStays_c : Ctr := ⟨(.cons t_api_Body (.cons t_easementref08_Pair (.cons (.int .i64) (.cons (.int .i64) .nil)))), (.cons .bool .nil), law21_ValidStays, none⟩
theorem law21_ValidStays_ok : CtrOK Try.prog 9 law21_ValidStays_c :=
  fun_at (fz := law21_ValidStays_fz) law21_ValidStays_fsok law21_ValidStays_isok Try.func9 (by kernel_rfl) (c := law21_ValidStays_code) (by kernel_rfl) law21_ValidStays_lsok0 (by kernel_rfl) (fun x => by kernel_rfl)
/-! ### easement/easementref21.Text: function 62 -/
noncomputable def ref21_Text_code : Code := Try.f62.body.getD .skip
noncomputable def ref21_Text_fs : List (Nat × Ctr) := []
noncomputable def ref21_Text_is : List (Nat × List PI) := []
theorem ref21_Text_fsok : FsOK Try.prog ref21_Text_fs := trivial
theorem ref21_Text_isok : IsOK Try.prog ref21_Text_is := trivial
def ref21_Text_fz : List (Nat × List Nat) := []
noncomputable def ref21_Text_ls0 : List (Nat × LCtr) := []
theorem ref21_Text_lsok0 : LsOK Try.prog Try.f62.ntmps ref21_Text_code ref21_Text_ls0 := trivial
noncomputable def ref21_Text (x : (V_valid_Fault × ByteArray × Unit)) : Option (ByteArray × Unit) :=
  cond (cond (cond (x.1.1 == (0 : Int)) true (decide (x.1.2.1 < (0 : Int)))) true (decide (x.1.2.1 > (7 : Int))))
    (some (x.2.1, ()))
    (let v1 := [(⟨#[104, 101, 97, 100]⟩ : ByteArray), (⟨#[98, 111, 117, 110, 100]⟩ : ByteArray), (⟨#[108, 111, 99, 97, 108]⟩ : ByteArray), (⟨#[114, 101, 116, 117, 114, 110]⟩ : ByteArray), (⟨#[115, 105, 103, 110, 97, 116, 117, 114, 101]⟩ : ByteArray), (⟨#[98, 108, 111, 99, 107]⟩ : ByteArray), (⟨#[115, 116, 97, 116, 101, 109, 101, 110, 116]⟩ : ByteArray), (⟨#[116, 101, 114, 109, 105, 110, 97, 116, 111, 114]⟩ : ByteArray)]
    ck (inB x.1.2.1 (v1.length)) <|
    let v2 := v1.getD x.1.2.1.toNat (Ty.dflt .str)
    let v3 := (⟨#[58, 32]⟩ : ByteArray)
    ck (decide (v2.size + v3.size ≤ 140737488355328)) <|
    ck (decide ((v2 ++ v3).size + x.2.1.size ≤ 140737488355328)) <|
    some ((v2 ++ v3) ++ x.2.1, ()))
noncomputable def ref21_Text_c : Ctr := ⟨(.cons t_valid_Fault (.cons .str .nil)), (.cons .str .nil), ref21_Text, none⟩
theorem ref21_Text_ok : CtrOK Try.prog 62 ref21_Text_c :=
  fun_at (fz := ref21_Text_fz) ref21_Text_fsok ref21_Text_isok Try.func62 (by kernel_rfl) (c := ref21_Text_code) (by kernel_rfl) ref21_Text_lsok0 (by kernel_rfl) (fun x => by kernel_rfl)
/-! ### easement/easementref15.Deref: function 26 -/
noncomputable def ref15_Deref_code : Code := Try.f26.body.getD .skip
noncomputable def ref15_Deref_fs : List (Nat × Ctr) := []
noncomputable def ref15_Deref_is : List (Nat × List PI) := []
theorem ref15_Deref_fsok : FsOK Try.prog ref15_Deref_fs := trivial
theorem ref15_Deref_isok : IsOK Try.prog ref15_Deref_is := trivial
def ref15_Deref_fz : List (Nat × List Nat) := []
noncomputable def ref15_Deref_ls0 : List (Nat × LCtr) := []
theorem ref15_Deref_lsok0 : LsOK Try.prog Try.f26.ntmps ref15_Deref_code ref15_Deref_ls0 := trivial
noncomputable def ref15_Deref (x : (V_api_Type × Unit)) : Option (V_api_Type × Int × Bool × Unit) :=
  let v1 := (x.1.1.length : Int) == (0 : Int)
  ck ((inB (0 : Int) (x.1.1.length)) || !(!v1)) <|
  cond (cond v1 true (rdL t_api_Slot x.1.1 (0 : Int)).2.1)
    (some ((([] : List V_api_Slot), ()), (0 : Int), false, ()))
    (ck (decide (0 ≤ (1 : Int)) && decide ((1 : Int) ≤ x.1.1.length)) <|
    ck (inB (0 : Int) (x.1.1.length)) <|
    some ((x.1.1.drop (1 : Int).toNat, ()), (rdL t_api_Slot x.1.1 (0 : Int)).1, true, ()))
noncomputable def ref15_Deref_c : Ctr := ⟨(.cons t_api_Type .nil), (.cons t_api_Type (.cons (.int .i64) (.cons .bool .nil))), ref15_Deref, none⟩
theorem ref15_Deref_ok : CtrOK Try.prog 26 ref15_Deref_c :=
  fun_at (fz := ref15_Deref_fz) ref15_Deref_fsok ref15_Deref_isok Try.func26 (by kernel_rfl) (c := ref15_Deref_code) (by kernel_rfl) ref15_Deref_lsok0 (by kernel_rfl) (fun x => by kernel_rfl)
end Go.XD


/- Printed functions, whole. -/


