/- For every input the law RowBack returns true, and its arguments read as they did: no condition. -/
import Derived.Test.YtpgmlgdbchjhfaaProg
import Derived.KernelRfl
import Derived.Test.YtpgmlgdbchjhfaaRows
import Derived.JoinedOf
import Derived.Test.YtpgmlgdbchjhfaaXd
set_option linter.unusedVariables false
set_option linter.unusedSimpArgs false
set_option linter.unnecessarySimpa false
set_option linter.deprecated false
set_option maxRecDepth 100000
namespace Go.XD
open Go.Proofs

abbrev t_api_Slot : Ty := (.st (.cons (.int .i64) (.cons .bool .nil)))
abbrev V_api_Slot : Type := (Int × Bool × Unit)
abbrev t_api_Type : Ty := (.st (.cons (.lst t_api_Slot) .nil))
abbrev V_api_Type : Type := ((List V_api_Slot) × Unit)

/-! ### easement/easementref15.Few: function 21 -/
noncomputable def ref15_Few_code : Code := Try.f21.body.getD .skip
noncomputable def ref15_Few_fs : List (Nat × Ctr) := []
noncomputable def ref15_Few_is : List (Nat × List PI) := []
theorem ref15_Few_fsok : FsOK Try.prog ref15_Few_fs := trivial
theorem ref15_Few_isok : IsOK Try.prog ref15_Few_is := trivial
def ref15_Few_fz : List (Nat × List Nat) := []
noncomputable def ref15_Few_ls0 : List (Nat × LCtr) := []
theorem ref15_Few_lsok0 : LsOK Try.prog Try.f21.ntmps ref15_Few_code ref15_Few_ls0 := trivial
noncomputable def ref15_Few (x : (V_api_Type × Int × Unit)) : Option (Bool × Unit) :=
  some (decide ((x.1.1.length : Int) ≤ x.2.1), ())
noncomputable def ref15_Few_c : Ctr := ⟨(.cons t_api_Type (.cons (.int .i64) .nil)), (.cons .bool .nil), ref15_Few⟩
theorem ref15_Few_ok : CtrOK Try.prog 21 ref15_Few_c :=
  fun_at (fz := ref15_Few_fz) ref15_Few_fsok ref15_Few_isok Try.func21 (by kernel_rfl) (c := ref15_Few_code) (by kernel_rfl) ref15_Few_lsok0 (by kernel_rfl) (fun x => by kernel_rfl)
/-! ### easement/row.Ref: function 28 -/
noncomputable def row_Ref_code : Code := Try.f28.body.getD .skip
noncomputable def row_Ref_fs : List (Nat × Ctr) := []
noncomputable def row_Ref_is : List (Nat × List PI) := []
theorem row_Ref_fsok : FsOK Try.prog row_Ref_fs := trivial
theorem row_Ref_isok : IsOK Try.prog row_Ref_is := trivial
def row_Ref_fz : List (Nat × List Nat) := []
noncomputable def row_Ref_ls0 : List (Nat × LCtr) := []
theorem row_Ref_lsok0 : LsOK Try.prog Try.f28.ntmps row_Ref_code row_Ref_ls0 := trivial
noncomputable def row_Ref_l6_step (g : (((List V_api_Slot) × Unit) × Bool × (List V_api_Slot) × Int × Int × Unit) → Option ((((List V_api_Slot) × Unit) × Unit) ⊕ Empty)) (x : (((List V_api_Slot) × Unit) × Bool × (List V_api_Slot) × Int × Int × Unit)) : Option ((((List V_api_Slot) × Unit) × Unit) ⊕ Empty) :=
  cond (decide (x.2.2.2.2.1 < x.2.2.2.1))
    (ck (inB x.2.2.2.2.1 (x.2.2.1.length)) <|
    let v1 := rdL t_api_Slot x.2.2.1 x.2.2.2.2.1
    let v2 := x.1.1 ++ [(v1.1, cond v1.2.1 true x.2.1, ())]
    ck (roomB v2.length 19) <|
    g ((v2, ()), x.2.1, x.2.2.1, x.2.2.2.1, IntKind.i64.wrap (x.2.2.2.2.1 + (1 : Int)), ()))
    (some (.inl ((x.1.1, ()), ())))
noncomputable def row_Ref_l6 : LCtr := ⟨[7, 2, 15, 16, 17], (.cons (.ptr (.cons (.own t_api_Slot) .nil)) (.cons (.val .bool) (.cons (.val (.lst t_api_Slot)) (.cons (.val (.int .i64)) (.cons (.val (.int .i64)) .nil))))), [some 0, none], [6, 7], [⟨(.exit 0), [7], (.cons (.ptr (.cons (.own t_api_Slot) .nil)) .nil), [some 0, none]⟩], [], lim row_Ref_l6_step⟩
noncomputable def row_Ref_ls1 : List (Nat × LCtr) := (6, row_Ref_l6) :: row_Ref_ls0
theorem row_Ref_lsok1 : LsOK Try.prog Try.f28.ntmps row_Ref_code row_Ref_ls1 :=
  loop_at (L := row_Ref_l6) (fz := row_Ref_fz) row_Ref_fsok row_Ref_isok row_Ref_lsok0 (by kernel_rfl) (by kernel_rfl) (by kernel_rfl) (step := row_Ref_l6_step) rfl (fun g x => by kernel_rfl)
noncomputable def row_Ref (x : (V_api_Type × Int × Bool × Unit)) : Option (V_api_Type × Unit) :=
  Option.bind (lim row_Ref_l6_step (([(x.2.1, false, ())], ()), x.2.2.1, x.1.1, (x.1.1.length : Int), (0 : Int), ())) fun y1 => out1 y1
    (fun z2 =>
      some ((z2.1.1, ()), ()))
noncomputable def row_Ref_c : Ctr := ⟨(.cons t_api_Type (.cons (.int .i64) (.cons .bool .nil))), (.cons t_api_Type .nil), row_Ref⟩
theorem row_Ref_ok : CtrOK Try.prog 28 row_Ref_c :=
  fun_at (fz := row_Ref_fz) row_Ref_fsok row_Ref_isok Try.func28 (by kernel_rfl) (c := row_Ref_code) (by kernel_rfl) row_Ref_lsok1 (by kernel_rfl) (fun x => by kernel_rfl)
/-! ### easement/easementref15.Shape: function 74 -/
noncomputable def ref15_Shape_code : Code := Try.f74.body.getD .skip
noncomputable def ref15_Shape_fs : List (Nat × Ctr) := []
noncomputable def ref15_Shape_is : List (Nat × List PI) := []
theorem ref15_Shape_fsok : FsOK Try.prog ref15_Shape_fs := trivial
theorem ref15_Shape_isok : IsOK Try.prog ref15_Shape_is := trivial
def ref15_Shape_fz : List (Nat × List Nat) := []
noncomputable def ref15_Shape_ls0 : List (Nat × LCtr) := []
theorem ref15_Shape_lsok0 : LsOK Try.prog Try.f74.ntmps ref15_Shape_code ref15_Shape_ls0 := trivial
noncomputable def ref15_Shape_l8_step (g : (((List V_api_Slot) × Unit) × ((List V_api_Slot) × Unit) × Int × Unit) → Option ((Bool × ((List V_api_Slot) × Unit) × ((List V_api_Slot) × Unit) × Unit) ⊕ ((((List V_api_Slot) × Unit) × ((List V_api_Slot) × Unit) × Unit) ⊕ Empty))) (x : (((List V_api_Slot) × Unit) × ((List V_api_Slot) × Unit) × Int × Unit)) : Option ((Bool × ((List V_api_Slot) × Unit) × ((List V_api_Slot) × Unit) × Unit) ⊕ ((((List V_api_Slot) × Unit) × ((List V_api_Slot) × Unit) × Unit) ⊕ Empty)) :=
  cond (decide (x.2.2.1 < (x.1.1.length : Int)))
    (ck (inB x.2.2.1 (x.1.1.length)) <|
    ck (inB x.2.2.1 (x.2.1.1.length)) <|
    cond (!((rdL t_api_Slot x.1.1 x.2.2.1).2.1 == (rdL t_api_Slot x.2.1.1 x.2.2.1).2.1))
      (some (.inl (false, (x.1.1, ()), (x.2.1.1, ()), ())))
      (g ((x.1.1, ()), (x.2.1.1, ()), IntKind.i64.wrap (x.2.2.1 + (1 : Int)), ())))
    (some (.inr (.inl ((x.1.1, ()), (x.2.1.1, ()), ()))))
noncomputable def ref15_Shape_l8 : LCtr := ⟨[2, 3, 5], (.cons (.ptr (.cons (.val (.lst t_api_Slot)) .nil)) (.cons (.ptr (.cons (.val (.lst t_api_Slot)) .nil)) (.cons (.val (.int .i64)) .nil))), [some 0, some 1], [], [⟨.ret, [4, 2, 3], (.cons (.val .bool) (.cons (.ptr (.cons (.val (.lst t_api_Slot)) .nil)) (.cons (.ptr (.cons (.val (.lst t_api_Slot)) .nil)) .nil))), [some 0, some 1]⟩, ⟨(.exit 0), [2, 3], (.cons (.ptr (.cons (.val (.lst t_api_Slot)) .nil)) (.cons (.ptr (.cons (.val (.lst t_api_Slot)) .nil)) .nil)), [some 0, some 1]⟩], [], lim ref15_Shape_l8_step⟩
noncomputable def ref15_Shape_ls1 : List (Nat × LCtr) := (8, ref15_Shape_l8) :: ref15_Shape_ls0
theorem ref15_Shape_lsok1 : LsOK Try.prog Try.f74.ntmps ref15_Shape_code ref15_Shape_ls1 :=
  loop_at (L := ref15_Shape_l8) (fz := ref15_Shape_fz) ref15_Shape_fsok ref15_Shape_isok ref15_Shape_lsok0 (by kernel_rfl) (by kernel_rfl) (by kernel_rfl) (step := ref15_Shape_l8_step) rfl (fun g x => by kernel_rfl)
noncomputable def ref15_Shape (x : (V_api_Type × V_api_Type × Unit)) : Option (Bool × Unit) :=
  cond ((x.1.1.length : Int) != (x.2.1.1.length : Int))
    (some (false, ()))
    (Option.bind (lim ref15_Shape_l8_step ((x.1.1, ()), (x.2.1.1, ()), (0 : Int), ())) fun y1 => out2 y1
      (fun z2 =>
        some (z2.1, ()))
      (fun z3 =>
        some (true, ())))
noncomputable def ref15_Shape_c : Ctr := ⟨(.cons t_api_Type (.cons t_api_Type .nil)), (.cons .bool .nil), ref15_Shape⟩
theorem ref15_Shape_ok : CtrOK Try.prog 74 ref15_Shape_c :=
  fun_at (fz := ref15_Shape_fz) ref15_Shape_fsok ref15_Shape_isok Try.func74 (by kernel_rfl) (c := ref15_Shape_code) (by kernel_rfl) ref15_Shape_lsok1 (by kernel_rfl) (fun x => by kernel_rfl)
/-! ### easement/easementref15.Same: function 27 -/
noncomputable def ref15_Same_code : Code := Try.f27.body.getD .skip
noncomputable def ref15_Same_fs : List (Nat × Ctr) := [(74, ref15_Shape_c)]
noncomputable def ref15_Same_is : List (Nat × List PI) := []
theorem ref15_Same_fsok : FsOK Try.prog ref15_Same_fs := ⟨ref15_Shape_ok, trivial⟩
theorem ref15_Same_isok : IsOK Try.prog ref15_Same_is := trivial
def ref15_Same_fz : List (Nat × List Nat) := []
noncomputable def ref15_Same_ls0 : List (Nat × LCtr) := []
theorem ref15_Same_lsok0 : LsOK Try.prog Try.f27.ntmps ref15_Same_code ref15_Same_ls0 := trivial
noncomputable def ref15_Same_l8_step (g : (((List V_api_Slot) × Unit) × ((List V_api_Slot) × Unit) × Int × Unit) → Option ((Bool × ((List V_api_Slot) × Unit) × ((List V_api_Slot) × Unit) × Unit) ⊕ ((((List V_api_Slot) × Unit) × ((List V_api_Slot) × Unit) × Unit) ⊕ Empty))) (x : (((List V_api_Slot) × Unit) × ((List V_api_Slot) × Unit) × Int × Unit)) : Option ((Bool × ((List V_api_Slot) × Unit) × ((List V_api_Slot) × Unit) × Unit) ⊕ ((((List V_api_Slot) × Unit) × ((List V_api_Slot) × Unit) × Unit) ⊕ Empty)) :=
  cond (decide (x.2.2.1 < (x.1.1.length : Int)))
    (ck (inB x.2.2.1 (x.1.1.length)) <|
    ck (inB x.2.2.1 (x.2.1.1.length)) <|
    cond ((rdL t_api_Slot x.1.1 x.2.2.1).1 != (rdL t_api_Slot x.2.1.1 x.2.2.1).1)
      (some (.inl (false, (x.1.1, ()), (x.2.1.1, ()), ())))
      (g ((x.1.1, ()), (x.2.1.1, ()), IntKind.i64.wrap (x.2.2.1 + (1 : Int)), ())))
    (some (.inr (.inl ((x.1.1, ()), (x.2.1.1, ()), ()))))
noncomputable def ref15_Same_l8 : LCtr := ⟨[2, 3, 5], (.cons (.ptr (.cons (.val (.lst t_api_Slot)) .nil)) (.cons (.ptr (.cons (.val (.lst t_api_Slot)) .nil)) (.cons (.val (.int .i64)) .nil))), [some 0, some 1], [], [⟨.ret, [4, 2, 3], (.cons (.val .bool) (.cons (.ptr (.cons (.val (.lst t_api_Slot)) .nil)) (.cons (.ptr (.cons (.val (.lst t_api_Slot)) .nil)) .nil))), [some 0, some 1]⟩, ⟨(.exit 0), [2, 3], (.cons (.ptr (.cons (.val (.lst t_api_Slot)) .nil)) (.cons (.ptr (.cons (.val (.lst t_api_Slot)) .nil)) .nil)), [some 0, some 1]⟩], [], lim ref15_Same_l8_step⟩
noncomputable def ref15_Same_ls1 : List (Nat × LCtr) := (8, ref15_Same_l8) :: ref15_Same_ls0
theorem ref15_Same_lsok1 : LsOK Try.prog Try.f27.ntmps ref15_Same_code ref15_Same_ls1 :=
  loop_at (L := ref15_Same_l8) (fz := ref15_Same_fz) ref15_Same_fsok ref15_Same_isok ref15_Same_lsok0 (by kernel_rfl) (by kernel_rfl) (by kernel_rfl) (step := ref15_Same_l8_step) rfl (fun g x => by kernel_rfl)
noncomputable def ref15_Same (x : (V_api_Type × V_api_Type × Unit)) : Option (Bool × Unit) :=
  Option.bind (ref15_Shape ((x.1.1, ()), (x.2.1.1, ()), ())) fun y1 =>
  cond (!y1.1)
    (some (false, ()))
    (Option.bind (lim ref15_Same_l8_step ((x.1.1, ()), (x.2.1.1, ()), (0 : Int), ())) fun y2 => out2 y2
      (fun z3 =>
        some (z3.1, ()))
      (fun z4 =>
        some (true, ())))
noncomputable def ref15_Same_c : Ctr := ⟨(.cons t_api_Type (.cons t_api_Type .nil)), (.cons .bool .nil), ref15_Same⟩
theorem ref15_Same_ok : CtrOK Try.prog 27 ref15_Same_c :=
  fun_at (fz := ref15_Same_fz) ref15_Same_fsok ref15_Same_isok Try.func27 (by kernel_rfl) (c := ref15_Same_code) (by kernel_rfl) ref15_Same_lsok1 (by kernel_rfl) (fun x => by kernel_rfl)
/-! ### easement/row.Has$1: function 104, at objects -/
noncomputable def row_Has_1_p0_code : Code := Try.f104.body.getD .skip
noncomputable def row_Has_1_p0_fs : List (Nat × Ctr) := []
noncomputable def row_Has_1_p0_is : List (Nat × List PI) := []
theorem row_Has_1_p0_fsok : FsOK Try.prog row_Has_1_p0_fs := trivial
theorem row_Has_1_p0_isok : IsOK Try.prog row_Has_1_p0_is := trivial
def row_Has_1_p0_fz : List (Nat × List Nat) := []
noncomputable def row_Has_1_p0_ls0 : List (Nat × LCtr) := []
theorem row_Has_1_p0_lsok0 : LsOK Try.prog Try.f104.ntmps row_Has_1_p0_code row_Has_1_p0_ls0 := trivial
noncomputable def row_Has_1_p0 (x : (V_api_Slot × (Int × Unit) × Unit)) : Option ((Bool × (Int × Unit) × Unit) ⊕ Empty) :=
  some (.inl (x.1.1 == x.2.1.1, (x.2.1.1, ()), ()))
noncomputable def row_Has_1_p0_L : LCtr := ⟨[0, 1], (.cons (.val t_api_Slot) (.cons (.ptr (.cons (.val (.int .i64)) .nil)) .nil)), [], [], [⟨.ret, [3, 1], (.cons (.val .bool) (.cons (.ptr (.cons (.val (.int .i64)) .nil)) .nil)), [some 0]⟩], [], row_Has_1_p0⟩
noncomputable def row_Has_1_p0_c : PI := ⟨Try.f104.ntmps, row_Has_1_p0_code, Try.f104.results.toList, row_Has_1_p0_L⟩
theorem row_Has_1_p0_ok : PIOK Try.prog 104 row_Has_1_p0_c :=
  proc_at (L := row_Has_1_p0_L) (fz := row_Has_1_p0_fz) row_Has_1_p0_fsok row_Has_1_p0_isok Try.func104 (by kernel_rfl) (by kernel_rfl) row_Has_1_p0_lsok0 (by kernel_rfl) (fun x => by kernel_rfl)
/-! ### slices.IndexFunc[[]easement/api.Slot,easement/api.Slot]: function 120, at objects -/
noncomputable def slices_IndexFunc_120_p0_code : Code := Try.f120.body.getD .skip
noncomputable def slices_IndexFunc_120_p0_fs : List (Nat × Ctr) := []
noncomputable def slices_IndexFunc_120_p0_is : List (Nat × List PI) := [(104, [row_Has_1_p0_c])]
theorem slices_IndexFunc_120_p0_fsok : FsOK Try.prog slices_IndexFunc_120_p0_fs := trivial
theorem slices_IndexFunc_120_p0_isok : IsOK Try.prog slices_IndexFunc_120_p0_is := ⟨⟨row_Has_1_p0_ok, trivial⟩, trivial⟩
def slices_IndexFunc_120_p0_fz : List (Nat × List Nat) := []
noncomputable def slices_IndexFunc_120_p0_ls0 : List (Nat × LCtr) := []
theorem slices_IndexFunc_120_p0_lsok0 : LsOK Try.prog Try.f120.ntmps slices_IndexFunc_120_p0_code slices_IndexFunc_120_p0_ls0 := trivial
noncomputable def slices_IndexFunc_120_p0_l4_step (g : ((List V_api_Slot) × ((Int × Unit) × Unit) × Int × Int × Unit) → Option ((Int × ((Int × Unit) × Unit) × Unit) ⊕ ((((Int × Unit) × Unit) × Unit) ⊕ Empty))) (x : ((List V_api_Slot) × ((Int × Unit) × Unit) × Int × Int × Unit)) : Option ((Int × ((Int × Unit) × Unit) × Unit) ⊕ ((((Int × Unit) × Unit) × Unit) ⊕ Empty)) :=
  cond (decide (x.2.2.2.1 < x.2.2.1))
    (ck (inB x.2.2.2.1 (x.1.length)) <|
    let v1 := rdL t_api_Slot x.1 x.2.2.2.1
    Option.bind (row_Has_1_p0 ((v1.1, v1.2.1, ()), (x.2.1.1.1, ()), ())) fun y1 => out1 y1
      (fun z2 =>
        cond (z2.1)
          (some (.inl (x.2.2.2.1, ((z2.2.1.1, ()), ()), ())))
          (g (x.1, ((z2.2.1.1, ()), ()), x.2.2.1, IntKind.i64.wrap (x.2.2.2.1 + (1 : Int)), ()))))
    (some (.inr (.inl (((x.2.1.1.1, ()), ()), ()))))
noncomputable def slices_IndexFunc_120_p0_l4 : LCtr := ⟨[0, 1, 7, 8], (.cons (.val (.lst t_api_Slot)) (.cons (.clo 104 (.cons (.ptr (.cons (.val (.int .i64)) .nil)) .nil)) (.cons (.val (.int .i64)) (.cons (.val (.int .i64)) .nil)))), [some 0], [0, 1], [⟨.ret, [4, 1], (.cons (.val (.int .i64)) (.cons (.clo 104 (.cons (.ptr (.cons (.val (.int .i64)) .nil)) .nil)) .nil)), [some 0]⟩, ⟨(.exit 0), [1], (.cons (.clo 104 (.cons (.ptr (.cons (.val (.int .i64)) .nil)) .nil)) .nil), [some 0]⟩], [], lim slices_IndexFunc_120_p0_l4_step⟩
noncomputable def slices_IndexFunc_120_p0_ls1 : List (Nat × LCtr) := (4, slices_IndexFunc_120_p0_l4) :: slices_IndexFunc_120_p0_ls0
theorem slices_IndexFunc_120_p0_lsok1 : LsOK Try.prog Try.f120.ntmps slices_IndexFunc_120_p0_code slices_IndexFunc_120_p0_ls1 :=
  loop_at (L := slices_IndexFunc_120_p0_l4) (fz := slices_IndexFunc_120_p0_fz) slices_IndexFunc_120_p0_fsok slices_IndexFunc_120_p0_isok slices_IndexFunc_120_p0_lsok0 (by kernel_rfl) (by kernel_rfl) (by kernel_rfl) (step := slices_IndexFunc_120_p0_l4_step) rfl (fun g x => by kernel_rfl)
noncomputable def slices_IndexFunc_120_p0 (x : ((List V_api_Slot) × ((Int × Unit) × Unit) × Unit)) : Option ((Int × ((Int × Unit) × Unit) × Unit) ⊕ Empty) :=
  Option.bind (lim slices_IndexFunc_120_p0_l4_step (x.1, ((x.2.1.1.1, ()), ()), (x.1.length : Int), (0 : Int), ())) fun y3 => out2 y3
    (fun z4 =>
      some (.inl (z4.1, ((z4.2.1.1.1, ()), ()), ())))
    (fun z5 =>
      some (.inl ((-1 : Int), ((z5.1.1.1, ()), ()), ())))
noncomputable def slices_IndexFunc_120_p0_L : LCtr := ⟨[0, 1], (.cons (.val (.lst t_api_Slot)) (.cons (.clo 104 (.cons (.ptr (.cons (.val (.int .i64)) .nil)) .nil)) .nil)), [], [], [⟨.ret, [4, 1], (.cons (.val (.int .i64)) (.cons (.clo 104 (.cons (.ptr (.cons (.val (.int .i64)) .nil)) .nil)) .nil)), [some 0]⟩], [], slices_IndexFunc_120_p0⟩
noncomputable def slices_IndexFunc_120_p0_c : PI := ⟨Try.f120.ntmps, slices_IndexFunc_120_p0_code, Try.f120.results.toList, slices_IndexFunc_120_p0_L⟩
theorem slices_IndexFunc_120_p0_ok : PIOK Try.prog 120 slices_IndexFunc_120_p0_c :=
  proc_at (L := slices_IndexFunc_120_p0_L) (fz := slices_IndexFunc_120_p0_fz) slices_IndexFunc_120_p0_fsok slices_IndexFunc_120_p0_isok Try.func120 (by kernel_rfl) (by kernel_rfl) slices_IndexFunc_120_p0_lsok1 (by kernel_rfl) (fun x => by kernel_rfl)
/-! ### slices.ContainsFunc[[]easement/api.Slot,easement/api.Slot]: function 103, at objects -/
noncomputable def slices_ContainsFunc_103_p0_code : Code := Try.f103.body.getD .skip
noncomputable def slices_ContainsFunc_103_p0_fs : List (Nat × Ctr) := []
noncomputable def slices_ContainsFunc_103_p0_is : List (Nat × List PI) := [(120, [slices_IndexFunc_120_p0_c])]
theorem slices_ContainsFunc_103_p0_fsok : FsOK Try.prog slices_ContainsFunc_103_p0_fs := trivial
theorem slices_ContainsFunc_103_p0_isok : IsOK Try.prog slices_ContainsFunc_103_p0_is := ⟨⟨slices_IndexFunc_120_p0_ok, trivial⟩, trivial⟩
def slices_ContainsFunc_103_p0_fz : List (Nat × List Nat) := []
noncomputable def slices_ContainsFunc_103_p0_ls0 : List (Nat × LCtr) := []
theorem slices_ContainsFunc_103_p0_lsok0 : LsOK Try.prog Try.f103.ntmps slices_ContainsFunc_103_p0_code slices_ContainsFunc_103_p0_ls0 := trivial
noncomputable def slices_ContainsFunc_103_p0 (x : ((List V_api_Slot) × ((Int × Unit) × Unit) × Unit)) : Option ((Bool × ((Int × Unit) × Unit) × Unit) ⊕ Empty) :=
  Option.bind (slices_IndexFunc_120_p0 (x.1, ((x.2.1.1.1, ()), ()), ())) fun y1 => out1 y1
    (fun z2 =>
      some (.inl (decide (z2.1 ≥ (0 : Int)), ((z2.2.1.1.1, ()), ()), ())))
noncomputable def slices_ContainsFunc_103_p0_L : LCtr := ⟨[0, 1], (.cons (.val (.lst t_api_Slot)) (.cons (.clo 104 (.cons (.ptr (.cons (.val (.int .i64)) .nil)) .nil)) .nil)), [], [], [⟨.ret, [4, 1], (.cons (.val .bool) (.cons (.clo 104 (.cons (.ptr (.cons (.val (.int .i64)) .nil)) .nil)) .nil)), [some 0]⟩], [], slices_ContainsFunc_103_p0⟩
noncomputable def slices_ContainsFunc_103_p0_c : PI := ⟨Try.f103.ntmps, slices_ContainsFunc_103_p0_code, Try.f103.results.toList, slices_ContainsFunc_103_p0_L⟩
theorem slices_ContainsFunc_103_p0_ok : PIOK Try.prog 103 slices_ContainsFunc_103_p0_c :=
  proc_at (L := slices_ContainsFunc_103_p0_L) (fz := slices_ContainsFunc_103_p0_fz) slices_ContainsFunc_103_p0_fsok slices_ContainsFunc_103_p0_isok Try.func103 (by kernel_rfl) (by kernel_rfl) slices_ContainsFunc_103_p0_lsok0 (by kernel_rfl) (fun x => by kernel_rfl)
/-! ### easement/row.Has: function 77 -/
noncomputable def row_Has_code : Code := Try.f77.body.getD .skip
noncomputable def row_Has_fs : List (Nat × Ctr) := []
noncomputable def row_Has_is : List (Nat × List PI) := [(103, [slices_ContainsFunc_103_p0_c])]
theorem row_Has_fsok : FsOK Try.prog row_Has_fs := trivial
theorem row_Has_isok : IsOK Try.prog row_Has_is := ⟨⟨slices_ContainsFunc_103_p0_ok, trivial⟩, trivial⟩
def row_Has_fz : List (Nat × List Nat) := []
noncomputable def row_Has_ls0 : List (Nat × LCtr) := []
theorem row_Has_lsok0 : LsOK Try.prog Try.f77.ntmps row_Has_code row_Has_ls0 := trivial
noncomputable def row_Has (x : (V_api_Type × Int × Unit)) : Option (Bool × Unit) :=
  Option.bind (slices_ContainsFunc_103_p0 (x.1.1, ((x.2.1, ()), ()), ())) fun y1 => out1 y1
    (fun z2 =>
      some (z2.1, ()))
noncomputable def row_Has_c : Ctr := ⟨(.cons t_api_Type (.cons (.int .i64) .nil)), (.cons .bool .nil), row_Has⟩
theorem row_Has_ok : CtrOK Try.prog 77 row_Has_c :=
  fun_at (fz := row_Has_fz) row_Has_fsok row_Has_isok Try.func77 (by kernel_rfl) (c := row_Has_code) (by kernel_rfl) row_Has_lsok0 (by kernel_rfl) (fun x => by kernel_rfl)
/-! ### easement/row.Check: function 42 -/
noncomputable def row_Check_code : Code := Try.f42.body.getD .skip
noncomputable def row_Check_fs : List (Nat × Ctr) := []
noncomputable def row_Check_is : List (Nat × List PI) := []
theorem row_Check_fsok : FsOK Try.prog row_Check_fs := trivial
theorem row_Check_isok : IsOK Try.prog row_Check_is := trivial
def row_Check_fz : List (Nat × List Nat) := []
noncomputable def row_Check_ls0 : List (Nat × LCtr) := []
theorem row_Check_lsok0 : LsOK Try.prog Try.f42.ntmps row_Check_code row_Check_ls0 := trivial
noncomputable def row_Check_l8_step (g : (Int × (List V_api_Slot) × Int × Int × Unit) → Option ((Int × Unit) ⊕ (Unit ⊕ Empty))) (x : (Int × (List V_api_Slot) × Int × Int × Unit)) : Option ((Int × Unit) ⊕ (Unit ⊕ Empty)) :=
  cond (decide (x.2.2.2.1 < x.2.2.1))
    (ck (inB x.2.2.2.1 (x.2.1.length)) <|
    let v1 := (rdL t_api_Slot x.2.1 x.2.2.2.1).1
    cond (cond (decide (v1 < (0 : Int))) true (decide (v1 ≥ x.1)))
      (some (.inl ((7 : Int), ())))
      (g (x.1, x.2.1, x.2.2.1, IntKind.i64.wrap (x.2.2.2.1 + (1 : Int)), ())))
    (some (.inr (.inl ())))
noncomputable def row_Check_l8 : LCtr := ⟨[1, 12, 13, 14], (.cons (.val (.int .i64)) (.cons (.val (.lst t_api_Slot)) (.cons (.val (.int .i64)) (.cons (.val (.int .i64)) .nil)))), [], [], [⟨.ret, [4], (.cons (.val (.int .i64)) .nil), []⟩, ⟨(.exit 0), [], .nil, []⟩], [], lim row_Check_l8_step⟩
noncomputable def row_Check_ls1 : List (Nat × LCtr) := (8, row_Check_l8) :: row_Check_ls0
theorem row_Check_lsok1 : LsOK Try.prog Try.f42.ntmps row_Check_code row_Check_ls1 :=
  loop_at (L := row_Check_l8) (fz := row_Check_fz) row_Check_fsok row_Check_isok row_Check_lsok0 (by kernel_rfl) (by kernel_rfl) (by kernel_rfl) (step := row_Check_l8_step) rfl (fun g x => by kernel_rfl)
noncomputable def row_Check (x : (V_api_Type × Int × Unit)) : Option (Int × Unit) :=
  cond (decide ((x.1.1.length : Int) > (16 : Int)))
    (some ((6 : Int), ()))
    (Option.bind (lim row_Check_l8_step (x.2.1, x.1.1, (x.1.1.length : Int), (0 : Int), ())) fun y1 => out2 y1
      (fun z2 =>
        some (z2.1, ()))
      (fun z3 =>
        some ((0 : Int), ())))
noncomputable def row_Check_c : Ctr := ⟨(.cons t_api_Type (.cons (.int .i64) .nil)), (.cons (.int .i64) .nil), row_Check⟩
theorem row_Check_ok : CtrOK Try.prog 42 row_Check_c :=
  fun_at (fz := row_Check_fz) row_Check_fsok row_Check_isok Try.func42 (by kernel_rfl) (c := row_Check_code) (by kernel_rfl) row_Check_lsok1 (by kernel_rfl) (fun x => by kernel_rfl)
/-! ### easement/easementlaw15.awake: function 22 -/
noncomputable def law15_awake_code : Code := Try.f22.body.getD .skip
noncomputable def law15_awake_fs : List (Nat × Ctr) := [(28, row_Ref_c), (27, ref15_Same_c), (77, row_Has_c), (42, row_Check_c)]
noncomputable def law15_awake_is : List (Nat × List PI) := []
theorem law15_awake_fsok : FsOK Try.prog law15_awake_fs := ⟨row_Ref_ok, ref15_Same_ok, row_Has_ok, row_Check_ok, trivial⟩
theorem law15_awake_isok : IsOK Try.prog law15_awake_is := trivial
def law15_awake_fz : List (Nat × List Nat) := []
noncomputable def law15_awake_ls0 : List (Nat × LCtr) := []
theorem law15_awake_lsok0 : LsOK Try.prog Try.f22.ntmps law15_awake_code law15_awake_ls0 := trivial
noncomputable def law15_awake (x : Unit) : Option (Bool × Unit) :=
  Option.bind (row_Ref (([((3 : Int), false, ())], ()), (5 : Int), true, ())) fun y1 =>
  Option.bind (ref15_Same ((y1.1.1, ()), ([((5 : Int), false, ()), ((3 : Int), true, ())], ()), ())) fun y2 =>
  cond (y2.1)
    (Option.bind (row_Has ((y1.1.1, ()), (3 : Int), ())) fun y3 =>
    cond (y3.1)
      (Option.bind (row_Check ((y1.1.1, ()), (5 : Int), ())) fun y4 =>
      some (y4.1 == (7 : Int), ()))
      (some (false, ())))
    (some (false, ()))
noncomputable def law15_awake_c : Ctr := ⟨.nil, (.cons .bool .nil), law15_awake⟩
theorem law15_awake_ok : CtrOK Try.prog 22 law15_awake_c :=
  fun_at (fz := law15_awake_fz) law15_awake_fsok law15_awake_isok Try.func22 (by kernel_rfl) (c := law15_awake_code) (by kernel_rfl) law15_awake_lsok0 (by kernel_rfl) (fun x => by kernel_rfl)
/-! ### slices.Clone[[]easement/api.Slot,easement/api.Slot]: function 80 -/
noncomputable def slices_Clone_80_code : Code := Try.f80.body.getD .skip
noncomputable def slices_Clone_80_fs : List (Nat × Ctr) := []
noncomputable def slices_Clone_80_is : List (Nat × List PI) := []
theorem slices_Clone_80_fsok : FsOK Try.prog slices_Clone_80_fs := trivial
theorem slices_Clone_80_isok : IsOK Try.prog slices_Clone_80_is := trivial
def slices_Clone_80_fz : List (Nat × List Nat) := []
noncomputable def slices_Clone_80_ls0 : List (Nat × LCtr) := []
theorem slices_Clone_80_lsok0 : LsOK Try.prog Try.f80.ntmps slices_Clone_80_code slices_Clone_80_ls0 := trivial
noncomputable def slices_Clone_80 (x : ((List V_api_Slot) × Unit)) : Option ((List V_api_Slot) × Unit) :=
  cond (x.1.isEmpty) (agree
    (some (([] : List V_api_Slot), ()))
    (let v1 := ([] : List V_api_Slot) ++ x.1
    ck (roomB v1.length 19) <|
    some (v1, ())))
    (let v1 := ([] : List V_api_Slot) ++ x.1
    ck (roomB v1.length 19) <|
    some (v1, ()))
noncomputable def slices_Clone_80_c : Ctr := ⟨(.cons (.lst t_api_Slot) .nil), (.cons (.lst t_api_Slot) .nil), slices_Clone_80⟩
theorem slices_Clone_80_ok : CtrOK Try.prog 80 slices_Clone_80_c :=
  fun_at (fz := slices_Clone_80_fz) slices_Clone_80_fsok slices_Clone_80_isok Try.func80 (by kernel_rfl) (c := slices_Clone_80_code) (by kernel_rfl) slices_Clone_80_lsok0 (by kernel_rfl) (fun x => by kernel_rfl)
/-! ### slices.Clone[[]easement/api.Slot,easement/api.Slot]: function 80, at objects -/
noncomputable def slices_Clone_80_p0_code : Code := Try.f80.body.getD .skip
noncomputable def slices_Clone_80_p0_fs : List (Nat × Ctr) := []
noncomputable def slices_Clone_80_p0_is : List (Nat × List PI) := []
theorem slices_Clone_80_p0_fsok : FsOK Try.prog slices_Clone_80_p0_fs := trivial
theorem slices_Clone_80_p0_isok : IsOK Try.prog slices_Clone_80_p0_is := trivial
def slices_Clone_80_p0_fz : List (Nat × List Nat) := []
noncomputable def slices_Clone_80_p0_ls0 : List (Nat × LCtr) := []
theorem slices_Clone_80_p0_lsok0 : LsOK Try.prog Try.f80.ntmps slices_Clone_80_p0_code slices_Clone_80_p0_ls0 := trivial
noncomputable def slices_Clone_80_p0 (x : ((List V_api_Slot) × Unit)) : Option (((List V_api_Slot) × Unit) ⊕ Empty) :=
  cond (x.1.isEmpty) (agree
    (some (.inl (([] : List V_api_Slot), ())))
    (let v1 := ([] : List V_api_Slot) ++ x.1
    ck (roomB v1.length 19) <|
    some (.inl (v1, ()))))
    (let v1 := ([] : List V_api_Slot) ++ x.1
    ck (roomB v1.length 19) <|
    some (.inl (v1, ())))
noncomputable def slices_Clone_80_p0_L : LCtr := ⟨[0], (.cons (.val (.lst t_api_Slot)) .nil), [], [], [⟨.ret, [2], (.cons (.own t_api_Slot) .nil), [none]⟩], [], slices_Clone_80_p0⟩
noncomputable def slices_Clone_80_p0_c : PI := ⟨Try.f80.ntmps, slices_Clone_80_p0_code, Try.f80.results.toList, slices_Clone_80_p0_L⟩
theorem slices_Clone_80_p0_ok : PIOK Try.prog 80 slices_Clone_80_p0_c :=
  proc_at (L := slices_Clone_80_p0_L) (fz := slices_Clone_80_p0_fz) slices_Clone_80_p0_fsok slices_Clone_80_p0_isok Try.func80 (by kernel_rfl) (by kernel_rfl) slices_Clone_80_p0_lsok0 (by kernel_rfl) (fun x => by kernel_rfl)
/-! ### easement/row.Clone: function 44, at objects -/
noncomputable def row_Clone_p0_code : Code := Try.f44.body.getD .skip
noncomputable def row_Clone_p0_fs : List (Nat × Ctr) := []
noncomputable def row_Clone_p0_is : List (Nat × List PI) := [(80, [slices_Clone_80_p0_c])]
theorem row_Clone_p0_fsok : FsOK Try.prog row_Clone_p0_fs := trivial
theorem row_Clone_p0_isok : IsOK Try.prog row_Clone_p0_is := ⟨⟨slices_Clone_80_p0_ok, trivial⟩, trivial⟩
def row_Clone_p0_fz : List (Nat × List Nat) := []
noncomputable def row_Clone_p0_ls0 : List (Nat × LCtr) := []
theorem row_Clone_p0_lsok0 : LsOK Try.prog Try.f44.ntmps row_Clone_p0_code row_Clone_p0_ls0 := trivial
noncomputable def row_Clone_p0 (x : (V_api_Type × Unit)) : Option ((((List V_api_Slot) × Unit) × Unit) ⊕ Empty) :=
  Option.bind (slices_Clone_80_p0 (x.1.1, ())) fun y1 => out1 y1
    (fun z2 =>
      some (.inl ((z2.1, ()), ())))
noncomputable def row_Clone_p0_L : LCtr := ⟨[0], (.cons (.val t_api_Type) .nil), [], [], [⟨.ret, [2], (.cons (.ptr (.cons (.own t_api_Slot) .nil)) .nil), [none, none]⟩], [], row_Clone_p0⟩
noncomputable def row_Clone_p0_c : PI := ⟨Try.f44.ntmps, row_Clone_p0_code, Try.f44.results.toList, row_Clone_p0_L⟩
theorem row_Clone_p0_ok : PIOK Try.prog 44 row_Clone_p0_c :=
  proc_at (L := row_Clone_p0_L) (fz := row_Clone_p0_fz) row_Clone_p0_fsok row_Clone_p0_isok Try.func44 (by kernel_rfl) (by kernel_rfl) row_Clone_p0_lsok0 (by kernel_rfl) (fun x => by kernel_rfl)
/-! ### easement/row.Subst: function 23 -/
noncomputable def row_Subst_code : Code := Try.f23.body.getD .skip
noncomputable def row_Subst_fs : List (Nat × Ctr) := []
noncomputable def row_Subst_is : List (Nat × List PI) := [(44, [row_Clone_p0_c])]
theorem row_Subst_fsok : FsOK Try.prog row_Subst_fs := trivial
theorem row_Subst_isok : IsOK Try.prog row_Subst_is := ⟨⟨row_Clone_p0_ok, trivial⟩, trivial⟩
def row_Subst_fz : List (Nat × List Nat) := []
noncomputable def row_Subst_ls0 : List (Nat × LCtr) := []
theorem row_Subst_lsok0 : LsOK Try.prog Try.f23.ntmps row_Subst_code row_Subst_ls0 := trivial
noncomputable def row_Subst_l6_step (g : (((List V_api_Slot) × Unit) × ((List V_api_Slot) × Unit) × (List Int) × Int × Int × Unit) → Option ((Int × (Unit × Unit) × ((List V_api_Slot) × Unit) × Unit) ⊕ ((((List V_api_Slot) × Unit) × ((List V_api_Slot) × Unit) × Unit) ⊕ Empty))) (x : (((List V_api_Slot) × Unit) × ((List V_api_Slot) × Unit) × (List Int) × Int × Int × Unit)) : Option ((Int × (Unit × Unit) × ((List V_api_Slot) × Unit) × Unit) ⊕ ((((List V_api_Slot) × Unit) × ((List V_api_Slot) × Unit) × Unit) ⊕ Empty)) :=
  cond (decide (x.2.2.2.2.1 < x.2.2.2.1))
    (ck (inB x.2.2.2.2.1 (x.2.1.1.length)) <|
    let v1 := (x.2.1.1.getD x.2.2.2.2.1.toNat (Ty.dflt t_api_Slot)).1
    cond (cond (decide (v1 < (0 : Int))) true (decide (v1 ≥ (x.2.2.1.length : Int))))
      (some (.inl ((7 : Int), ((), ()), (x.2.1.1, ()), ())))
      (ck (inB v1 (x.2.2.1.length)) <|
      ck (inB x.2.2.2.2.1 (x.2.1.1.length)) <|
      g ((x.1.1, ()), (x.2.1.1.set x.2.2.2.2.1.toNat (rdL (.int .i64) x.2.2.1 v1, (x.2.1.1.getD x.2.2.2.2.1.toNat (Ty.dflt t_api_Slot)).2), ()), x.2.2.1, x.2.2.2.1, IntKind.i64.wrap (x.2.2.2.2.1 + (1 : Int)), ())))
    (some (.inr (.inl ((x.1.1, ()), (x.2.1.1, ()), ()))))
noncomputable def row_Subst_l6 : LCtr := ⟨[4, 6, 1, 13, 14], (.cons (.ptr (.cons (.own t_api_Slot) .nil)) (.cons (.ptr (.cons (.own t_api_Slot) .nil)) (.cons (.val (.lst (.int .i64))) (.cons (.val (.int .i64)) (.cons (.val (.int .i64)) .nil))))), [some 0, some 1, some 2, some 3], [4, 6], [⟨.ret, [5, 4, 6], (.cons (.val (.int .i64)) (.cons (.ptr (.cons (.cst false) .nil)) (.cons (.ptr (.cons (.own t_api_Slot) .nil)) .nil))), [some 0, some 2, some 3]⟩, ⟨(.exit 0), [4, 6], (.cons (.ptr (.cons (.own t_api_Slot) .nil)) (.cons (.ptr (.cons (.own t_api_Slot) .nil)) .nil)), [some 0, some 1, some 2, some 3]⟩], [(12, .sf 3)], lim row_Subst_l6_step⟩
noncomputable def row_Subst_ls1 : List (Nat × LCtr) := (6, row_Subst_l6) :: row_Subst_ls0
theorem row_Subst_lsok1 : LsOK Try.prog Try.f23.ntmps row_Subst_code row_Subst_ls1 :=
  loop_at (L := row_Subst_l6) (fz := row_Subst_fz) row_Subst_fsok row_Subst_isok row_Subst_lsok0 (by kernel_rfl) (by kernel_rfl) (by kernel_rfl) (step := row_Subst_l6_step) rfl (fun g x => by kernel_rfl)
noncomputable def row_Subst (x : (V_api_Type × (List Int) × Unit)) : Option (V_api_Type × Int × Unit) :=
  Option.bind (row_Clone_p0 ((x.1.1, ()), ())) fun y1 => out1 y1
    (fun z2 =>
      Option.bind (lim row_Subst_l6_step ((([] : List V_api_Slot), ()), (z2.1.1, ()), x.2.1, (z2.1.1.length : Int), (0 : Int), ())) fun y3 => out2 y3
        (fun z4 =>
          some ((([] : List V_api_Slot), ()), z4.1, ()))
        (fun z5 =>
          some ((z5.2.1.1, ()), (0 : Int), ())))
noncomputable def row_Subst_c : Ctr := ⟨(.cons t_api_Type (.cons (.lst (.int .i64)) .nil)), (.cons t_api_Type (.cons (.int .i64) .nil)), row_Subst⟩
theorem row_Subst_ok : CtrOK Try.prog 23 row_Subst_c :=
  fun_at (fz := row_Subst_fz) row_Subst_fsok row_Subst_isok Try.func23 (by kernel_rfl) (c := row_Subst_code) (by kernel_rfl) row_Subst_lsok1 (by kernel_rfl) (fun x => by kernel_rfl)
/-! ### easement/easementref15.Subst: function 24 -/
noncomputable def ref15_Subst_code : Code := Try.f24.body.getD .skip
noncomputable def ref15_Subst_fs : List (Nat × Ctr) := []
noncomputable def ref15_Subst_is : List (Nat × List PI) := []
theorem ref15_Subst_fsok : FsOK Try.prog ref15_Subst_fs := trivial
theorem ref15_Subst_isok : IsOK Try.prog ref15_Subst_is := trivial
def ref15_Subst_fz : List (Nat × List Nat) := []
noncomputable def ref15_Subst_ls0 : List (Nat × LCtr) := []
theorem ref15_Subst_lsok0 : LsOK Try.prog Try.f24.ntmps ref15_Subst_code ref15_Subst_ls0 := trivial
noncomputable def ref15_Subst_l6_step (g : (((List V_api_Slot) × Unit) × ((List V_api_Slot) × Unit) × (List Int) × (List V_api_Slot) × Int × Unit) → Option ((Int × ((List V_api_Slot) × Unit) × (Unit × Unit) × (List V_api_Slot) × Unit) ⊕ (((List V_api_Slot) × ((List V_api_Slot) × Unit) × ((List V_api_Slot) × Unit) × Unit) ⊕ Empty))) (x : (((List V_api_Slot) × Unit) × ((List V_api_Slot) × Unit) × (List Int) × (List V_api_Slot) × Int × Unit)) : Option ((Int × ((List V_api_Slot) × Unit) × (Unit × Unit) × (List V_api_Slot) × Unit) ⊕ (((List V_api_Slot) × ((List V_api_Slot) × Unit) × ((List V_api_Slot) × Unit) × Unit) ⊕ Empty)) :=
  cond (decide (x.2.2.2.2.1 < (x.1.1.length : Int)))
    (ck (inB x.2.2.2.2.1 (x.1.1.length)) <|
    let v1 := (rdL t_api_Slot x.1.1 x.2.2.2.2.1).1
    cond (cond (decide (v1 < (0 : Int))) true (decide (v1 ≥ (x.2.2.1.length : Int))))
      (some (.inl ((7 : Int), (x.1.1, ()), ((), ()), x.2.2.2.1, ())))
      (ck (inB v1 (x.2.2.1.length)) <|
      ck (inB x.2.2.2.2.1 (x.1.1.length)) <|
      let v2 := x.2.2.2.1 ++ [(rdL (.int .i64) x.2.2.1 v1, (rdL t_api_Slot x.1.1 x.2.2.2.2.1).2.1, ())]
      ck (roomB v2.length 19) <|
      g ((x.1.1, ()), (x.2.1.1, ()), x.2.2.1, v2, IntKind.i64.wrap (x.2.2.2.2.1 + (1 : Int)), ())))
    (some (.inr (.inl (x.2.2.2.1, (x.1.1, ()), (x.2.1.1, ()), ()))))
noncomputable def ref15_Subst_l6 : LCtr := ⟨[2, 4, 1, 6, 7], (.cons (.ptr (.cons (.val (.lst t_api_Slot)) .nil)) (.cons (.ptr (.cons (.own t_api_Slot) .nil)) (.cons (.val (.lst (.int .i64))) (.cons (.own t_api_Slot) (.cons (.val (.int .i64)) .nil))))), [some 0, some 1, some 2, none], [4], [⟨.ret, [5, 2, 4, 6], (.cons (.val (.int .i64)) (.cons (.ptr (.cons (.val (.lst t_api_Slot)) .nil)) (.cons (.ptr (.cons (.cst false) .nil)) (.cons (.own t_api_Slot) .nil)))), [some 0, some 1, none]⟩, ⟨(.exit 0), [6, 2, 4], (.cons (.own t_api_Slot) (.cons (.ptr (.cons (.val (.lst t_api_Slot)) .nil)) (.cons (.ptr (.cons (.own t_api_Slot) .nil)) .nil))), [none, some 0, some 1, some 2]⟩], [], lim ref15_Subst_l6_step⟩
noncomputable def ref15_Subst_ls1 : List (Nat × LCtr) := (6, ref15_Subst_l6) :: ref15_Subst_ls0
theorem ref15_Subst_lsok1 : LsOK Try.prog Try.f24.ntmps ref15_Subst_code ref15_Subst_ls1 :=
  loop_at (L := ref15_Subst_l6) (fz := ref15_Subst_fz) ref15_Subst_fsok ref15_Subst_isok ref15_Subst_lsok0 (by kernel_rfl) (by kernel_rfl) (by kernel_rfl) (step := ref15_Subst_l6_step) rfl (fun g x => by kernel_rfl)
noncomputable def ref15_Subst (x : (V_api_Type × (List Int) × Unit)) : Option (V_api_Type × Int × Unit) :=
  Option.bind (lim ref15_Subst_l6_step ((x.1.1, ()), (([] : List V_api_Slot), ()), x.2.1, ([] : List V_api_Slot), (0 : Int), ())) fun y1 => out2 y1
    (fun z2 =>
      some ((([] : List V_api_Slot), ()), z2.1, ()))
    (fun z3 =>
      some ((z3.1, ()), (0 : Int), ()))
noncomputable def ref15_Subst_c : Ctr := ⟨(.cons t_api_Type (.cons (.lst (.int .i64)) .nil)), (.cons t_api_Type (.cons (.int .i64) .nil)), ref15_Subst⟩
theorem ref15_Subst_ok : CtrOK Try.prog 24 ref15_Subst_c :=
  fun_at (fz := ref15_Subst_fz) ref15_Subst_fsok ref15_Subst_isok Try.func24 (by kernel_rfl) (c := ref15_Subst_code) (by kernel_rfl) ref15_Subst_lsok1 (by kernel_rfl) (fun x => by kernel_rfl)
/-! ### easement/row.Deref: function 25 -/
noncomputable def row_Deref_code : Code := Try.f25.body.getD .skip
noncomputable def row_Deref_fs : List (Nat × Ctr) := [(80, slices_Clone_80_c)]
noncomputable def row_Deref_is : List (Nat × List PI) := []
theorem row_Deref_fsok : FsOK Try.prog row_Deref_fs := ⟨slices_Clone_80_ok, trivial⟩
theorem row_Deref_isok : IsOK Try.prog row_Deref_is := trivial
def row_Deref_fz : List (Nat × List Nat) := []
noncomputable def row_Deref_ls0 : List (Nat × LCtr) := []
theorem row_Deref_lsok0 : LsOK Try.prog Try.f25.ntmps row_Deref_code row_Deref_ls0 := trivial
noncomputable def row_Deref (x : (V_api_Type × Unit)) : Option (V_api_Type × Int × Bool × Unit) :=
  let v1 := (x.1.1.length : Int) == (0 : Int)
  ck ((inB (0 : Int) (x.1.1.length)) || !(!v1)) <|
  cond (cond v1 true (rdL t_api_Slot x.1.1 (0 : Int)).2.1)
    (some ((([] : List V_api_Slot), ()), (0 : Int), false, ()))
    (ck (decide (0 ≤ (1 : Int)) && decide ((1 : Int) ≤ x.1.1.length)) <|
    Option.bind (slices_Clone_80 (x.1.1.drop (1 : Int).toNat, ())) fun y1 =>
    ck (inB (0 : Int) (x.1.1.length)) <|
    some ((y1.1, ()), (rdL t_api_Slot x.1.1 (0 : Int)).1, true, ()))
noncomputable def row_Deref_c : Ctr := ⟨(.cons t_api_Type .nil), (.cons t_api_Type (.cons (.int .i64) (.cons .bool .nil))), row_Deref⟩
theorem row_Deref_ok : CtrOK Try.prog 25 row_Deref_c :=
  fun_at (fz := row_Deref_fz) row_Deref_fsok row_Deref_isok Try.func25 (by kernel_rfl) (c := row_Deref_code) (by kernel_rfl) row_Deref_lsok0 (by kernel_rfl) (fun x => by kernel_rfl)
/-! ### easement/easementref15.Deref: function 26 -/
noncomputable def ref15_Deref_code : Code := Try.f26.body.getD .skip
noncomputable def ref15_Deref_fs : List (Nat × Ctr) := []
noncomputable def ref15_Deref_is : List (Nat × List PI) := []
theorem ref15_Deref_fsok : FsOK Try.prog ref15_Deref_fs := trivial
theorem ref15_Deref_isok : IsOK Try.prog ref15_Deref_is := trivial
def ref15_Deref_fz : List (Nat × List Nat) := []
noncomputable def ref15_Deref_ls0 : List (Nat × LCtr) := []
theorem ref15_Deref_lsok0 : LsOK Try.prog Try.f26.ntmps ref15_Deref_code ref15_Deref_ls0 := trivial
noncomputable def ref15_Deref (x : (V_api_Type × Unit)) : Option (V_api_Type × Int × Bool × Unit) :=
  let v1 := (x.1.1.length : Int) == (0 : Int)
  ck ((inB (0 : Int) (x.1.1.length)) || !(!v1)) <|
  cond (cond v1 true (rdL t_api_Slot x.1.1 (0 : Int)).2.1)
    (some ((([] : List V_api_Slot), ()), (0 : Int), false, ()))
    (ck (decide (0 ≤ (1 : Int)) && decide ((1 : Int) ≤ x.1.1.length)) <|
    ck (inB (0 : Int) (x.1.1.length)) <|
    some ((x.1.1.drop (1 : Int).toNat, ()), (rdL t_api_Slot x.1.1 (0 : Int)).1, true, ()))
noncomputable def ref15_Deref_c : Ctr := ⟨(.cons t_api_Type .nil), (.cons t_api_Type (.cons (.int .i64) (.cons .bool .nil))), ref15_Deref⟩
theorem ref15_Deref_ok : CtrOK Try.prog 26 ref15_Deref_c :=
  fun_at (fz := ref15_Deref_fz) ref15_Deref_fsok ref15_Deref_isok Try.func26 (by kernel_rfl) (c := ref15_Deref_code) (by kernel_rfl) ref15_Deref_lsok0 (by kernel_rfl) (fun x => by kernel_rfl)
/-! ### easement/easementref15.Ref: function 29 -/
noncomputable def ref15_Ref_code : Code := Try.f29.body.getD .skip
noncomputable def ref15_Ref_fs : List (Nat × Ctr) := []
noncomputable def ref15_Ref_is : List (Nat × List PI) := []
theorem ref15_Ref_fsok : FsOK Try.prog ref15_Ref_fs := trivial
theorem ref15_Ref_isok : IsOK Try.prog ref15_Ref_is := trivial
def ref15_Ref_fz : List (Nat × List Nat) := []
noncomputable def ref15_Ref_ls0 : List (Nat × LCtr) := []
theorem ref15_Ref_lsok0 : LsOK Try.prog Try.f29.ntmps ref15_Ref_code ref15_Ref_ls0 := trivial
noncomputable def ref15_Ref_l6_step (g : (((List V_api_Slot) × Unit) × Bool × (List V_api_Slot) × Int × Unit) → Option (((List V_api_Slot) × ((List V_api_Slot) × Unit) × Unit) ⊕ Empty)) (x : (((List V_api_Slot) × Unit) × Bool × (List V_api_Slot) × Int × Unit)) : Option (((List V_api_Slot) × ((List V_api_Slot) × Unit) × Unit) ⊕ Empty) :=
  cond (decide (x.2.2.2.1 < (x.1.1.length : Int)))
    (ck (inB x.2.2.2.1 (x.1.1.length)) <|
    ck (inB x.2.2.2.1 (x.1.1.length)) <|
    let v1 := x.2.2.1 ++ [((rdL t_api_Slot x.1.1 x.2.2.2.1).1, cond (rdL t_api_Slot x.1.1 x.2.2.2.1).2.1 true x.2.1, ())]
    ck (roomB v1.length 19) <|
    g ((x.1.1, ()), x.2.1, v1, IntKind.i64.wrap (x.2.2.2.1 + (1 : Int)), ()))
    (some (.inl (x.2.2.1, (x.1.1, ()), ())))
noncomputable def ref15_Ref_l6 : LCtr := ⟨[3, 2, 7, 8], (.cons (.ptr (.cons (.val (.lst t_api_Slot)) .nil)) (.cons (.val .bool) (.cons (.own t_api_Slot) (.cons (.val (.int .i64)) .nil)))), [some 0, none], [6], [⟨(.exit 0), [7, 3], (.cons (.own t_api_Slot) (.cons (.ptr (.cons (.val (.lst t_api_Slot)) .nil)) .nil)), [none, some 0]⟩], [], lim ref15_Ref_l6_step⟩
noncomputable def ref15_Ref_ls1 : List (Nat × LCtr) := (6, ref15_Ref_l6) :: ref15_Ref_ls0
theorem ref15_Ref_lsok1 : LsOK Try.prog Try.f29.ntmps ref15_Ref_code ref15_Ref_ls1 :=
  loop_at (L := ref15_Ref_l6) (fz := ref15_Ref_fz) ref15_Ref_fsok ref15_Ref_isok ref15_Ref_lsok0 (by kernel_rfl) (by kernel_rfl) (by kernel_rfl) (step := ref15_Ref_l6_step) rfl (fun g x => by kernel_rfl)
noncomputable def ref15_Ref (x : (V_api_Type × Int × Bool × Unit)) : Option (V_api_Type × Unit) :=
  Option.bind (lim ref15_Ref_l6_step ((x.1.1, ()), x.2.2.1, [(x.2.1, false, ())], (0 : Int), ())) fun y1 => out1 y1
    (fun z2 =>
      some ((z2.1, ()), ()))
noncomputable def ref15_Ref_c : Ctr := ⟨(.cons t_api_Type (.cons (.int .i64) (.cons .bool .nil))), (.cons t_api_Type .nil), ref15_Ref⟩
theorem ref15_Ref_ok : CtrOK Try.prog 29 ref15_Ref_c :=
  fun_at (fz := ref15_Ref_fz) ref15_Ref_fsok ref15_Ref_isok Try.func29 (by kernel_rfl) (c := ref15_Ref_code) (by kernel_rfl) ref15_Ref_lsok1 (by kernel_rfl) (fun x => by kernel_rfl)
/-! ### easement/easementlaw15.RowTurns: function 4 -/
noncomputable def law15_RowTurns_code : Code := Try.f4.body.getD .skip
noncomputable def law15_RowTurns_fs : List (Nat × Ctr) := [(21, ref15_Few_c), (22, law15_awake_c), (23, row_Subst_c), (24, ref15_Subst_c), (25, row_Deref_c), (26, ref15_Deref_c), (27, ref15_Same_c), (28, row_Ref_c), (29, ref15_Ref_c)]
noncomputable def law15_RowTurns_is : List (Nat × List PI) := []
theorem law15_RowTurns_fsok : FsOK Try.prog law15_RowTurns_fs := ⟨ref15_Few_ok, law15_awake_ok, row_Subst_ok, ref15_Subst_ok, row_Deref_ok, ref15_Deref_ok, ref15_Same_ok, row_Ref_ok, ref15_Ref_ok, trivial⟩
theorem law15_RowTurns_isok : IsOK Try.prog law15_RowTurns_is := trivial
def law15_RowTurns_fz : List (Nat × List Nat) := []
noncomputable def law15_RowTurns_ls0 : List (Nat × LCtr) := []
theorem law15_RowTurns_lsok0 : LsOK Try.prog Try.f4.ntmps law15_RowTurns_code law15_RowTurns_ls0 := trivial
noncomputable def law15_RowTurns (x : (V_api_Type × (List Int) × Int × Bool × Unit)) : Option (Bool × Unit) :=
  Option.bind (ref15_Few ((x.1.1, ()), (30 : Int), ())) fun y1 =>
  cond (cond (!y1.1) true (decide ((x.2.1.length : Int) > (30 : Int))))
    (Option.bind (law15_awake ()) fun y2 =>
    some (y2.1, ()))
    (Option.bind (row_Subst ((x.1.1, ()), x.2.1, ())) fun y3 =>
    Option.bind (ref15_Subst ((x.1.1, ()), x.2.1, ())) fun y4 =>
    Option.bind (row_Deref ((x.1.1, ()), ())) fun y5 =>
    Option.bind (ref15_Deref ((x.1.1, ()), ())) fun y6 =>
    Option.bind (ref15_Same ((y3.1.1, ()), (y4.1.1, ()), ())) fun y7 =>
    cond (cond y7.1 (y3.2.1 == y4.2.1) false)
      (Option.bind (row_Ref ((x.1.1, ()), x.2.2.1, x.2.2.2.1, ())) fun y8 =>
      Option.bind (ref15_Ref ((x.1.1, ()), x.2.2.1, x.2.2.2.1, ())) fun y9 =>
      Option.bind (ref15_Same (y8.1, y9.1, ())) fun y10 =>
      cond (y10.1)
        (Option.bind (ref15_Same ((y5.1.1, ()), (y6.1.1, ()), ())) fun y11 =>
        cond (cond (cond y11.1 (y5.2.1 == y6.2.1) false) (y5.2.2.1 == y6.2.2.1) false)
          (Option.bind (law15_awake ()) fun y12 =>
          some (y12.1, ()))
          (some (false, ())))
        (some (false, ())))
      (some (false, ())))
noncomputable def law15_RowTurns_c : Ctr := ⟨(.cons t_api_Type (.cons (.lst (.int .i64)) (.cons (.int .i64) (.cons .bool .nil)))), (.cons .bool .nil), law15_RowTurns⟩
theorem law15_RowTurns_ok : CtrOK Try.prog 4 law15_RowTurns_c :=
  fun_at (fz := law15_RowTurns_fz) law15_RowTurns_fsok law15_RowTurns_isok Try.func4 (by kernel_rfl) (c := law15_RowTurns_code) (by kernel_rfl) law15_RowTurns_lsok0 (by kernel_rfl) (fun x => by kernel_rfl)
/-! ### easement/easementref15.Check: function 41 -/
noncomputable def ref15_Check_code : Code := Try.f41.body.getD .skip
noncomputable def ref15_Check_fs : List (Nat × Ctr) := []
noncomputable def ref15_Check_is : List (Nat × List PI) := []
theorem ref15_Check_fsok : FsOK Try.prog ref15_Check_fs := trivial
theorem ref15_Check_isok : IsOK Try.prog ref15_Check_is := trivial
def ref15_Check_fz : List (Nat × List Nat) := []
noncomputable def ref15_Check_ls0 : List (Nat × LCtr) := []
theorem ref15_Check_lsok0 : LsOK Try.prog Try.f41.ntmps ref15_Check_code ref15_Check_ls0 := trivial
noncomputable def ref15_Check_l8_step (g : (((List V_api_Slot) × Unit) × Int × Int × Unit) → Option ((Int × ((List V_api_Slot) × Unit) × Unit) ⊕ ((((List V_api_Slot) × Unit) × Unit) ⊕ Empty))) (x : (((List V_api_Slot) × Unit) × Int × Int × Unit)) : Option ((Int × ((List V_api_Slot) × Unit) × Unit) ⊕ ((((List V_api_Slot) × Unit) × Unit) ⊕ Empty)) :=
  cond (decide (x.2.2.1 < (x.1.1.length : Int)))
    (ck (inB x.2.2.1 (x.1.1.length)) <|
    let v1 := decide ((rdL t_api_Slot x.1.1 x.2.2.1).1 < (0 : Int))
    ck ((inB x.2.2.1 (x.1.1.length)) || !(!v1)) <|
    cond (cond v1 true (decide ((rdL t_api_Slot x.1.1 x.2.2.1).1 ≥ x.2.1)))
      (some (.inl ((7 : Int), (x.1.1, ()), ())))
      (g ((x.1.1, ()), x.2.1, IntKind.i64.wrap (x.2.2.1 + (1 : Int)), ())))
    (some (.inr (.inl ((x.1.1, ()), ()))))
noncomputable def ref15_Check_l8 : LCtr := ⟨[2, 1, 5], (.cons (.ptr (.cons (.val (.lst t_api_Slot)) .nil)) (.cons (.val (.int .i64)) (.cons (.val (.int .i64)) .nil))), [some 0], [], [⟨.ret, [4, 2], (.cons (.val (.int .i64)) (.cons (.ptr (.cons (.val (.lst t_api_Slot)) .nil)) .nil)), [some 0]⟩, ⟨(.exit 0), [2], (.cons (.ptr (.cons (.val (.lst t_api_Slot)) .nil)) .nil), [some 0]⟩], [], lim ref15_Check_l8_step⟩
noncomputable def ref15_Check_ls1 : List (Nat × LCtr) := (8, ref15_Check_l8) :: ref15_Check_ls0
theorem ref15_Check_lsok1 : LsOK Try.prog Try.f41.ntmps ref15_Check_code ref15_Check_ls1 :=
  loop_at (L := ref15_Check_l8) (fz := ref15_Check_fz) ref15_Check_fsok ref15_Check_isok ref15_Check_lsok0 (by kernel_rfl) (by kernel_rfl) (by kernel_rfl) (step := ref15_Check_l8_step) rfl (fun g x => by kernel_rfl)
noncomputable def ref15_Check (x : (V_api_Type × Int × Unit)) : Option (Int × Unit) :=
  cond (decide ((x.1.1.length : Int) > (16 : Int)))
    (some ((6 : Int), ()))
    (Option.bind (lim ref15_Check_l8_step ((x.1.1, ()), x.2.1, (0 : Int), ())) fun y1 => out2 y1
      (fun z2 =>
        some (z2.1, ()))
      (fun z3 =>
        some ((0 : Int), ())))
noncomputable def ref15_Check_c : Ctr := ⟨(.cons t_api_Type (.cons (.int .i64) .nil)), (.cons (.int .i64) .nil), ref15_Check⟩
theorem ref15_Check_ok : CtrOK Try.prog 41 ref15_Check_c :=
  fun_at (fz := ref15_Check_fz) ref15_Check_fsok ref15_Check_isok Try.func41 (by kernel_rfl) (c := ref15_Check_code) (by kernel_rfl) ref15_Check_lsok1 (by kernel_rfl) (fun x => by kernel_rfl)
/-! ### easement/row.Shape$1: function 83 -/
noncomputable def row_Shape_1_code : Code := Try.f83.body.getD .skip
noncomputable def row_Shape_1_fs : List (Nat × Ctr) := []
noncomputable def row_Shape_1_is : List (Nat × List PI) := []
theorem row_Shape_1_fsok : FsOK Try.prog row_Shape_1_fs := trivial
theorem row_Shape_1_isok : IsOK Try.prog row_Shape_1_is := trivial
def row_Shape_1_fz : List (Nat × List Nat) := []
noncomputable def row_Shape_1_ls0 : List (Nat × LCtr) := []
theorem row_Shape_1_lsok0 : LsOK Try.prog Try.f83.ntmps row_Shape_1_code row_Shape_1_ls0 := trivial
noncomputable def row_Shape_1 (x : (V_api_Slot × V_api_Slot × Unit)) : Option (Bool × Unit) :=
  some (x.1.2.1 == x.2.1.2.1, ())
noncomputable def row_Shape_1_c : Ctr := ⟨(.cons t_api_Slot (.cons t_api_Slot .nil)), (.cons .bool .nil), row_Shape_1⟩
theorem row_Shape_1_ok : CtrOK Try.prog 83 row_Shape_1_c :=
  fun_at (fz := row_Shape_1_fz) row_Shape_1_fsok row_Shape_1_isok Try.func83 (by kernel_rfl) (c := row_Shape_1_code) (by kernel_rfl) row_Shape_1_lsok0 (by kernel_rfl) (fun x => by kernel_rfl)
/-! ### slices.EqualFunc[[]easement/api.Slot,[]easement/api.Slot,easement/api.Slot,easement/api.Slot]: function 82, at objects -/
noncomputable def slices_EqualFunc_82_p0_code : Code := Try.f82.body.getD .skip
noncomputable def slices_EqualFunc_82_p0_fs : List (Nat × Ctr) := [(83, row_Shape_1_c)]
noncomputable def slices_EqualFunc_82_p0_is : List (Nat × List PI) := []
theorem slices_EqualFunc_82_p0_fsok : FsOK Try.prog slices_EqualFunc_82_p0_fs := ⟨row_Shape_1_ok, trivial⟩
theorem slices_EqualFunc_82_p0_isok : IsOK Try.prog slices_EqualFunc_82_p0_is := trivial
def slices_EqualFunc_82_p0_fz : List (Nat × List Nat) := []
noncomputable def slices_EqualFunc_82_p0_ls0 : List (Nat × LCtr) := []
theorem slices_EqualFunc_82_p0_lsok0 : LsOK Try.prog Try.f82.ntmps slices_EqualFunc_82_p0_code slices_EqualFunc_82_p0_ls0 := trivial
noncomputable def slices_EqualFunc_82_p0_l8_step (g : ((List V_api_Slot) × Unit × (List V_api_Slot) × Int × Int × Unit) → Option ((Bool × Unit) ⊕ (Unit ⊕ Empty))) (x : ((List V_api_Slot) × Unit × (List V_api_Slot) × Int × Int × Unit)) : Option ((Bool × Unit) ⊕ (Unit ⊕ Empty)) :=
  cond (decide (x.2.2.2.2.1 < x.2.2.2.1))
    (ck (inB x.2.2.2.2.1 (x.2.2.1.length)) <|
    ck (inB x.2.2.2.2.1 (x.1.length)) <|
    let v1 := rdL t_api_Slot x.2.2.1 x.2.2.2.2.1
    let v2 := rdL t_api_Slot x.1 x.2.2.2.2.1
    Option.bind (row_Shape_1 ((v1.1, v1.2.1, ()), (v2.1, v2.2.1, ()), ())) fun y1 =>
    cond (!y1.1)
      (some (.inl (false, ())))
      (g (x.1, (), x.2.2.1, x.2.2.2.1, IntKind.i64.wrap (x.2.2.2.2.1 + (1 : Int)), ())))
    (some (.inr (.inl ())))
noncomputable def slices_EqualFunc_82_p0_l8 : LCtr := ⟨[1, 2, 15, 16, 17], (.cons (.val (.lst t_api_Slot)) (.cons (.clo 83 .nil) (.cons (.val (.lst t_api_Slot)) (.cons (.val (.int .i64)) (.cons (.val (.int .i64)) .nil))))), [], [0, 1, 2], [⟨.ret, [6], (.cons (.val .bool) .nil), []⟩, ⟨(.exit 0), [], .nil, []⟩], [], lim slices_EqualFunc_82_p0_l8_step⟩
noncomputable def slices_EqualFunc_82_p0_ls1 : List (Nat × LCtr) := (8, slices_EqualFunc_82_p0_l8) :: slices_EqualFunc_82_p0_ls0
theorem slices_EqualFunc_82_p0_lsok1 : LsOK Try.prog Try.f82.ntmps slices_EqualFunc_82_p0_code slices_EqualFunc_82_p0_ls1 :=
  loop_at (L := slices_EqualFunc_82_p0_l8) (fz := slices_EqualFunc_82_p0_fz) slices_EqualFunc_82_p0_fsok slices_EqualFunc_82_p0_isok slices_EqualFunc_82_p0_lsok0 (by kernel_rfl) (by kernel_rfl) (by kernel_rfl) (step := slices_EqualFunc_82_p0_l8_step) rfl (fun g x => by kernel_rfl)
noncomputable def slices_EqualFunc_82_p0 (x : ((List V_api_Slot) × (List V_api_Slot) × Unit × Unit)) : Option ((Bool × Unit) ⊕ Empty) :=
  cond ((x.1.length : Int) != (x.2.1.length : Int))
    (some (.inl (false, ())))
    (Option.bind (lim slices_EqualFunc_82_p0_l8_step (x.2.1, (), x.1, (x.1.length : Int), (0 : Int), ())) fun y2 => out2 y2
      (fun z3 =>
        some (.inl (z3.1, ())))
      (fun z4 =>
        some (.inl (true, ()))))
noncomputable def slices_EqualFunc_82_p0_L : LCtr := ⟨[0, 1, 2], (.cons (.val (.lst t_api_Slot)) (.cons (.val (.lst t_api_Slot)) (.cons (.clo 83 .nil) .nil))), [], [], [⟨.ret, [6], (.cons (.val .bool) .nil), []⟩], [], slices_EqualFunc_82_p0⟩
noncomputable def slices_EqualFunc_82_p0_c : PI := ⟨Try.f82.ntmps, slices_EqualFunc_82_p0_code, Try.f82.results.toList, slices_EqualFunc_82_p0_L⟩
theorem slices_EqualFunc_82_p0_ok : PIOK Try.prog 82 slices_EqualFunc_82_p0_c :=
  proc_at (L := slices_EqualFunc_82_p0_L) (fz := slices_EqualFunc_82_p0_fz) slices_EqualFunc_82_p0_fsok slices_EqualFunc_82_p0_isok Try.func82 (by kernel_rfl) (by kernel_rfl) slices_EqualFunc_82_p0_lsok1 (by kernel_rfl) (fun x => by kernel_rfl)
/-! ### easement/row.Shape: function 43 -/
noncomputable def row_Shape_code : Code := Try.f43.body.getD .skip
noncomputable def row_Shape_fs : List (Nat × Ctr) := []
noncomputable def row_Shape_is : List (Nat × List PI) := [(82, [slices_EqualFunc_82_p0_c])]
theorem row_Shape_fsok : FsOK Try.prog row_Shape_fs := trivial
theorem row_Shape_isok : IsOK Try.prog row_Shape_is := ⟨⟨slices_EqualFunc_82_p0_ok, trivial⟩, trivial⟩
def row_Shape_fz : List (Nat × List Nat) := []
noncomputable def row_Shape_ls0 : List (Nat × LCtr) := []
theorem row_Shape_lsok0 : LsOK Try.prog Try.f43.ntmps row_Shape_code row_Shape_ls0 := trivial
noncomputable def row_Shape (x : (V_api_Type × V_api_Type × Unit)) : Option (Bool × Unit) :=
  Option.bind (slices_EqualFunc_82_p0 (x.1.1, x.2.1.1, (), ())) fun y1 => out1 y1
    (fun z2 =>
      some (z2.1, ()))
noncomputable def row_Shape_c : Ctr := ⟨(.cons t_api_Type (.cons t_api_Type .nil)), (.cons .bool .nil), row_Shape⟩
theorem row_Shape_ok : CtrOK Try.prog 43 row_Shape_c :=
  fun_at (fz := row_Shape_fz) row_Shape_fsok row_Shape_isok Try.func43 (by kernel_rfl) (c := row_Shape_code) (by kernel_rfl) row_Shape_lsok0 (by kernel_rfl) (fun x => by kernel_rfl)
/-! ### slices.Equal[[]easement/api.Slot,easement/api.Slot]: function 84 -/
noncomputable def slices_Equal_84_code : Code := Try.f84.body.getD .skip
noncomputable def slices_Equal_84_fs : List (Nat × Ctr) := []
noncomputable def slices_Equal_84_is : List (Nat × List PI) := []
theorem slices_Equal_84_fsok : FsOK Try.prog slices_Equal_84_fs := trivial
theorem slices_Equal_84_isok : IsOK Try.prog slices_Equal_84_is := trivial
def slices_Equal_84_fz : List (Nat × List Nat) := []
noncomputable def slices_Equal_84_ls0 : List (Nat × LCtr) := []
theorem slices_Equal_84_lsok0 : LsOK Try.prog Try.f84.ntmps slices_Equal_84_code slices_Equal_84_ls0 := trivial
noncomputable def slices_Equal_84_l8_step (g : ((List V_api_Slot) × (List V_api_Slot) × Int × Int × Unit) → Option ((Bool × Unit) ⊕ (Unit ⊕ Empty))) (x : ((List V_api_Slot) × (List V_api_Slot) × Int × Int × Unit)) : Option ((Bool × Unit) ⊕ (Unit ⊕ Empty)) :=
  cond (decide (x.2.2.2.1 < x.2.2.1))
    (ck (inB x.2.2.2.1 (x.1.length)) <|
    ck (inB x.2.2.2.1 (x.2.1.length)) <|
    let v1 := rdL t_api_Slot x.1 x.2.2.2.1
    let v2 := rdL t_api_Slot x.2.1 x.2.2.2.1
    cond (!((v1.1 == v2.1) && ((v1.2.1 == v2.2.1) && true)))
      (some (.inl (false, ())))
      (g (x.1, x.2.1, x.2.2.1, IntKind.i64.wrap (x.2.2.2.1 + (1 : Int)), ())))
    (some (.inr (.inl ())))
noncomputable def slices_Equal_84_l8 : LCtr := ⟨[0, 1, 12, 13], (.cons (.val (.lst t_api_Slot)) (.cons (.val (.lst t_api_Slot)) (.cons (.val (.int .i64)) (.cons (.val (.int .i64)) .nil)))), [], [], [⟨.ret, [4], (.cons (.val .bool) .nil), []⟩, ⟨(.exit 0), [], .nil, []⟩], [], lim slices_Equal_84_l8_step⟩
noncomputable def slices_Equal_84_ls1 : List (Nat × LCtr) := (8, slices_Equal_84_l8) :: slices_Equal_84_ls0
theorem slices_Equal_84_lsok1 : LsOK Try.prog Try.f84.ntmps slices_Equal_84_code slices_Equal_84_ls1 :=
  loop_at (L := slices_Equal_84_l8) (fz := slices_Equal_84_fz) slices_Equal_84_fsok slices_Equal_84_isok slices_Equal_84_lsok0 (by kernel_rfl) (by kernel_rfl) (by kernel_rfl) (step := slices_Equal_84_l8_step) rfl (fun g x => by kernel_rfl)
noncomputable def slices_Equal_84 (x : ((List V_api_Slot) × (List V_api_Slot) × Unit)) : Option (Bool × Unit) :=
  cond ((x.1.length : Int) != (x.2.1.length : Int))
    (some (false, ()))
    (Option.bind (lim slices_Equal_84_l8_step (x.1, x.2.1, (x.1.length : Int), (0 : Int), ())) fun y1 => out2 y1
      (fun z2 =>
        some (z2.1, ()))
      (fun z3 =>
        some (true, ())))
noncomputable def slices_Equal_84_c : Ctr := ⟨(.cons (.lst t_api_Slot) (.cons (.lst t_api_Slot) .nil)), (.cons .bool .nil), slices_Equal_84⟩
theorem slices_Equal_84_ok : CtrOK Try.prog 84 slices_Equal_84_c :=
  fun_at (fz := slices_Equal_84_fz) slices_Equal_84_fsok slices_Equal_84_isok Try.func84 (by kernel_rfl) (c := slices_Equal_84_code) (by kernel_rfl) slices_Equal_84_lsok1 (by kernel_rfl) (fun x => by kernel_rfl)
/-! ### easement/row.Same: function 45 -/
noncomputable def row_Same_code : Code := Try.f45.body.getD .skip
noncomputable def row_Same_fs : List (Nat × Ctr) := [(84, slices_Equal_84_c)]
noncomputable def row_Same_is : List (Nat × List PI) := []
theorem row_Same_fsok : FsOK Try.prog row_Same_fs := ⟨slices_Equal_84_ok, trivial⟩
theorem row_Same_isok : IsOK Try.prog row_Same_is := trivial
def row_Same_fz : List (Nat × List Nat) := []
noncomputable def row_Same_ls0 : List (Nat × LCtr) := []
theorem row_Same_lsok0 : LsOK Try.prog Try.f45.ntmps row_Same_code row_Same_ls0 := trivial
noncomputable def row_Same (x : (V_api_Type × V_api_Type × Unit)) : Option (Bool × Unit) :=
  Option.bind (slices_Equal_84 (x.1.1, x.2.1.1, ())) fun y1 =>
  some (y1.1, ())
noncomputable def row_Same_c : Ctr := ⟨(.cons t_api_Type (.cons t_api_Type .nil)), (.cons .bool .nil), row_Same⟩
theorem row_Same_ok : CtrOK Try.prog 45 row_Same_c :=
  fun_at (fz := row_Same_fz) row_Same_fsok row_Same_isok Try.func45 (by kernel_rfl) (c := row_Same_code) (by kernel_rfl) row_Same_lsok0 (by kernel_rfl) (fun x => by kernel_rfl)
/-! ### easement/easementlaw15.RowBack: function 7 -/
noncomputable def law15_RowBack_code : Code := Try.f7.body.getD .skip
noncomputable def law15_RowBack_fs : List (Nat × Ctr) := [(41, ref15_Check_c), (42, row_Check_c), (22, law15_awake_c), (28, row_Ref_c), (25, row_Deref_c), (27, ref15_Same_c), (23, row_Subst_c), (43, row_Shape_c), (45, row_Same_c)]
noncomputable def law15_RowBack_is : List (Nat × List PI) := [(44, [row_Clone_p0_c])]
theorem law15_RowBack_fsok : FsOK Try.prog law15_RowBack_fs := ⟨ref15_Check_ok, row_Check_ok, law15_awake_ok, row_Ref_ok, row_Deref_ok, ref15_Same_ok, row_Subst_ok, row_Shape_ok, row_Same_ok, trivial⟩
theorem law15_RowBack_isok : IsOK Try.prog law15_RowBack_is := ⟨⟨row_Clone_p0_ok, trivial⟩, trivial⟩
def law15_RowBack_fz : List (Nat × List Nat) := []
noncomputable def law15_RowBack_ls0 : List (Nat × LCtr) := []
theorem law15_RowBack_lsok0 : LsOK Try.prog Try.f7.ntmps law15_RowBack_code law15_RowBack_ls0 := trivial
noncomputable def law15_RowBack_l16_step (g : ((List Int) × (List Int) × Int × Unit) → Option (((List Int) × (List Int) × Unit) ⊕ Empty)) (x : ((List Int) × (List Int) × Int × Unit)) : Option (((List Int) × (List Int) × Unit) ⊕ Empty) :=
  cond (decide (x.2.2.1 < (40 : Int)))
    (ck (roomB (x.1 ++ [x.2.2.1]).length 10) <|
    let v1 := x.2.1 ++ [IntKind.i64.wrap ((39 : Int) - x.2.2.1)]
    ck (roomB v1.length 10) <|
    g (x.1 ++ [x.2.2.1], v1, IntKind.i64.wrap (x.2.2.1 + (1 : Int)), ()))
    (some (.inl (x.1, x.2.1, ())))
noncomputable def law15_RowBack_l16 : LCtr := ⟨[10, 11, 12], (.cons (.own (.int .i64)) (.cons (.own (.int .i64)) (.cons (.val (.int .i64)) .nil))), [none, none], [3], [⟨(.exit 0), [10, 11], (.cons (.own (.int .i64)) (.cons (.own (.int .i64)) .nil)), [none, none]⟩], [], lim law15_RowBack_l16_step⟩
noncomputable def law15_RowBack_ls1 : List (Nat × LCtr) := (16, law15_RowBack_l16) :: law15_RowBack_ls0
theorem law15_RowBack_lsok1 : LsOK Try.prog Try.f7.ntmps law15_RowBack_code law15_RowBack_ls1 :=
  loop_at (L := law15_RowBack_l16) (fz := law15_RowBack_fz) law15_RowBack_fsok law15_RowBack_isok law15_RowBack_lsok0 (by kernel_rfl) (by kernel_rfl) (by kernel_rfl) (step := law15_RowBack_l16_step) rfl (fun g x => by kernel_rfl)
noncomputable def law15_RowBack_j271_v (x : (((List V_api_Slot) × Unit) × ((List V_api_Slot) × Unit) × Bool × Unit)) : Option ((Bool × ((List V_api_Slot) × Unit) × ((List V_api_Slot) × Unit) × Unit) ⊕ ((((List V_api_Slot) × Unit) × ((List V_api_Slot) × Unit) × Unit) ⊕ Empty)) :=
  cond (x.2.2.1)
    (ck (inB (0 : Int) (x.2.1.1.length)) <|
    ck (inB (0 : Int) (x.2.1.1.length)) <|
    let v1 := x.2.1.1.getD (0 : Int).toNat (Ty.dflt t_api_Slot)
    Option.bind (row_Same ((x.2.1.1.set (0 : Int).toNat (v1.1, !(x.2.1.1.getD (0 : Int).toNat (Ty.dflt t_api_Slot)).2.1, v1.2.2), ()), (x.1.1, ()), ())) fun y18 =>
    cond (!y18.1)
      (let v2 := x.2.1.1.set (0 : Int).toNat (v1.1, !(x.2.1.1.getD (0 : Int).toNat (Ty.dflt t_api_Slot)).2.1, v1.2.2)
      Option.bind (row_Shape ((v2, ()), (x.1.1, ()), ())) fun y19 =>
      cond (y19.1)
        (some (.inl (false, (x.1.1, ()), (v2, ()), ())))
        (some (.inr (.inl ((x.1.1, ()), (v2, ()), ())))))
      (some (.inl (false, (x.1.1, ()), (x.2.1.1.set (0 : Int).toNat (v1.1, !(x.2.1.1.getD (0 : Int).toNat (Ty.dflt t_api_Slot)).2.1, v1.2.2), ()), ()))))
    (some (.inr (.inl ((x.1.1, ()), (x.2.1.1, ()), ()))))
noncomputable def law15_RowBack_j271 : LCtr := ⟨[3, 19, 135], (.cons (.ptr (.cons (.val (.lst t_api_Slot)) .nil)) (.cons (.ptr (.cons (.own t_api_Slot) .nil)) (.cons (.val .bool) .nil))), [], [3, 13], [⟨.ret, [6, 3, 19], (.cons (.val .bool) (.cons (.ptr (.cons (.val (.lst t_api_Slot)) .nil)) (.cons (.ptr (.cons (.val (.lst t_api_Slot)) .nil)) .nil))), [some 0, some 1]⟩, ⟨.normal, [3, 19], (.cons (.ptr (.cons (.val (.lst t_api_Slot)) .nil)) (.cons (.ptr (.cons (.val (.lst t_api_Slot)) .nil)) .nil)), [some 0, some 1]⟩], [], law15_RowBack_j271_v⟩
noncomputable def law15_RowBack_ls2 : List (Nat × LCtr) := (271, law15_RowBack_j271) :: law15_RowBack_ls1
theorem law15_RowBack_lsok2 : LsOK Try.prog Try.f7.ntmps law15_RowBack_code law15_RowBack_ls2 :=
  join_at (L := law15_RowBack_j271) (fz := law15_RowBack_fz) law15_RowBack_fsok law15_RowBack_isok law15_RowBack_lsok1 (by kernel_rfl) (by kernel_rfl) (fun x => by kernel_rfl)
noncomputable def law15_RowBack (x : (V_api_Type × Int × Bool × Unit)) : Option (Bool × Unit) :=
  Option.bind (ref15_Check ((x.1.1, ()), (40 : Int), ())) fun y1 =>
  cond (y1.1 != (0 : Int))
    (Option.bind (row_Check ((x.1.1, ()), (40 : Int), ())) fun y2 =>
    Option.bind (ref15_Check ((x.1.1, ()), (40 : Int), ())) fun y3 =>
    cond (y2.1 == y3.1)
      (Option.bind (law15_awake ()) fun y4 =>
      some (y4.1, ()))
      (some (false, ())))
    (Option.bind (row_Ref ((x.1.1, ()), x.2.1, x.2.2.1, ())) fun y5 =>
    Option.bind (row_Deref (y5.1, ())) fun y6 =>
    cond (!(cond (!y6.2.2.1) true (y6.2.1 != x.2.1)))
      (cond (!x.2.2.1)
        (Option.bind (ref15_Same ((y6.1.1, ()), (x.1.1, ()), ())) fun y7 =>
        cond (cond (!y7.1) true (cond x.2.2.1 ((y6.1.1.length : Int) != (x.1.1.length : Int)) false))
          (some (false, ()))
          (Option.bind (lim law15_RowBack_l16_step (([] : List Int), ([] : List Int), (0 : Int), ())) fun y8 => out1 y8
            (fun z9 =>
              Option.bind (row_Subst ((x.1.1, ()), z9.1, ())) fun y10 =>
              Option.bind (row_Subst ((x.1.1, ()), z9.2.1, ())) fun y11 =>
              Option.bind (row_Subst ((y11.1.1, ()), z9.2.1, ())) fun y12 =>
              cond (!(cond (cond (y10.2.1 != (0 : Int)) true (y11.2.1 != (0 : Int))) true (y12.2.1 != (0 : Int))))
                (Option.bind (ref15_Same ((y10.1.1, ()), (x.1.1, ()), ())) fun y13 =>
                cond (!(!y13.1))
                  (Option.bind (row_Shape ((y11.1.1, ()), (x.1.1, ()), ())) fun y14 =>
                  cond (!(!y14.1))
                    (Option.bind (ref15_Same ((y12.1.1, ()), (x.1.1, ()), ())) fun y15 =>
                    cond (!y15.1)
                      (some (false, ()))
                      (Option.bind (row_Clone_p0 ((x.1.1, ()), ())) fun y16 => out1 y16
                        (fun z17 =>
                          Option.bind (law15_RowBack_j271_v ((x.1.1, ()), (z17.1.1, ()), decide ((z17.1.1.length : Int) > (0 : Int)), ())) fun y20 => out2 y20
                            (fun z21 =>
                              some (z21.1, ()))
                            (fun z22 =>
                              Option.bind (row_Same ((z22.1.1, ()), (y10.1.1, ()), ())) fun y23 =>
                              cond (y23.1)
                                (Option.bind (law15_awake ()) fun y24 =>
                                some (y24.1, ()))
                                (some (false, ()))))))
                    (some (false, ())))
                  (some (false, ())))
                (some (false, ())))))
        (cond (cond x.2.2.1 ((y6.1.1.length : Int) != (x.1.1.length : Int)) false)
          (some (false, ()))
          (Option.bind (lim law15_RowBack_l16_step (([] : List Int), ([] : List Int), (0 : Int), ())) fun y25 => out1 y25
            (fun z26 =>
              Option.bind (row_Subst ((x.1.1, ()), z26.1, ())) fun y27 =>
              Option.bind (row_Subst ((x.1.1, ()), z26.2.1, ())) fun y28 =>
              Option.bind (row_Subst ((y28.1.1, ()), z26.2.1, ())) fun y29 =>
              cond (!(cond (cond (y27.2.1 != (0 : Int)) true (y28.2.1 != (0 : Int))) true (y29.2.1 != (0 : Int))))
                (Option.bind (ref15_Same ((y27.1.1, ()), (x.1.1, ()), ())) fun y30 =>
                cond (!(!y30.1))
                  (Option.bind (row_Shape ((y28.1.1, ()), (x.1.1, ()), ())) fun y31 =>
                  cond (!(!y31.1))
                    (Option.bind (ref15_Same ((y29.1.1, ()), (x.1.1, ()), ())) fun y32 =>
                    cond (!y32.1)
                      (some (false, ()))
                      (Option.bind (row_Clone_p0 ((x.1.1, ()), ())) fun y33 => out1 y33
                        (fun z34 =>
                          Option.bind (law15_RowBack_j271_v ((x.1.1, ()), (z34.1.1, ()), decide ((z34.1.1.length : Int) > (0 : Int)), ())) fun y35 => out2 y35
                            (fun z36 =>
                              some (z36.1, ()))
                            (fun z37 =>
                              Option.bind (row_Same ((z37.1.1, ()), (y27.1.1, ()), ())) fun y38 =>
                              cond (y38.1)
                                (Option.bind (law15_awake ()) fun y39 =>
                                some (y39.1, ()))
                                (some (false, ()))))))
                    (some (false, ())))
                  (some (false, ())))
                (some (false, ()))))))
      (some (false, ())))
noncomputable def law15_RowBack_c : Ctr := ⟨(.cons t_api_Type (.cons (.int .i64) (.cons .bool .nil))), (.cons .bool .nil), law15_RowBack⟩
theorem law15_RowBack_ok : CtrOK Try.prog 7 law15_RowBack_c :=
  fun_at (fz := law15_RowBack_fz) law15_RowBack_fsok law15_RowBack_isok Try.func7 (by kernel_rfl) (c := law15_RowBack_code) (by kernel_rfl) law15_RowBack_lsok2 (by kernel_rfl) (fun x => by kernel_rfl)
end Go.XD


/- Types: what their functions come to. -/
namespace Go.XD

theorem ref15_Same_refl (a : List V_api_Slot) (h : a.length ≤ 1000) : ref15_Same ((a, ()), (a, ()), ()) = some (true, ()) := by
  have h1 : lim ref15_Shape_l8_step ((a, ()), (a, ()), ((0 : Nat) : Int), ()) = some (.inr (.inl ((a, ()), (a, ()), ()))) := by
    refine lim_at (fun x => ∃ k : Nat, k ≤ a.length ∧ x = ((a, ()), (a, ()), (k : Int), ())) (fun x => a.length - x.2.2.1.toNat) (fun g x hx ih => ?_) ⟨0, by omega, rfl⟩
    obtain ⟨k, hk, rfl⟩ := hx
    unfold ref15_Shape_l8_step
    simp only
    by_cases h : k < a.length
    · have hd : decide ((k : Int) < (a.length : Int)) = true := by simp; omega
      rw [hd, inB_nat h, wrap_succ (by omega)]
      simp only [cond_true, ck_true, beq_self_eq_true, Bool.not_true, cond_false]
      exact ih _ ⟨k + 1, by omega, rfl⟩ (by simp; omega)
    · have hd : decide ((k : Int) < (a.length : Int)) = false := by simp; omega
      rw [hd]
      rfl
  have h2 : lim ref15_Same_l8_step ((a, ()), (a, ()), ((0 : Nat) : Int), ()) = some (.inr (.inl ((a, ()), (a, ()), ()))) := by
    refine lim_at (fun x => ∃ k : Nat, k ≤ a.length ∧ x = ((a, ()), (a, ()), (k : Int), ())) (fun x => a.length - x.2.2.1.toNat) (fun g x hx ih => ?_) ⟨0, by omega, rfl⟩
    obtain ⟨k, hk, rfl⟩ := hx
    unfold ref15_Same_l8_step
    simp only
    by_cases h : k < a.length
    · have hd : decide ((k : Int) < (a.length : Int)) = true := by simp; omega
      rw [hd, inB_nat h, wrap_succ (by omega)]
      simp only [cond_true, ck_true, bne_self_eq_false, cond_false]
      exact ih _ ⟨k + 1, by omega, rfl⟩ (by simp; omega)
    · have hd : decide ((k : Int) < (a.length : Int)) = false := by simp; omega
      rw [hd]
      rfl
  unfold ref15_Same ref15_Shape
  simp only [bne_self_eq_false, cond_false]
  rw [show ((0 : Int)) = ((0 : Nat) : Int) from rfl, h1]
  simp only [Option.bind_some, out2_inr, Bool.not_true, cond_false]
  rw [h2]
  rfl

/-- What is borrowed. -/
def refS (l : List V_api_Slot) (r : Int) (mu : Bool) : List V_api_Slot := (r, false, ()) :: l.map fun s => (s.1, s.2.1 || mu, ())

theorem row_Ref_eq (l : List V_api_Slot) (h : l.length ≤ 1000) (r : Int) (mu : Bool) : row_Ref ((l, ()), r, mu, ()) = some ((refS l r mu, ()), ()) := by
  have h1 : lim row_Ref_l6_step (([(r, false, ())], ()), mu, l, (l.length : Int), ((0 : Nat) : Int), ()) = some (.inl ((refS l r mu, ()), ())) := by
    refine lim_at (fun x => ∃ k : Nat, k ≤ l.length ∧ x = ((refS (l.take k) r mu, ()), mu, l, (l.length : Int), (k : Int), ())) (fun x => l.length - x.2.2.2.2.1.toNat) (fun g x hx ih => ?_) ⟨0, by omega, rfl⟩
    obtain ⟨k, hk, rfl⟩ := hx
    unfold row_Ref_l6_step
    simp only
    by_cases h : k < l.length
    · have hd : decide ((k : Int) < (l.length : Int)) = true := by simp; omega
      rw [hd, inB_nat h, wrap_succ (by omega), rdL_nat _ _ h, roomB_ok (by simp [refS]; omega)]
      simp only [cond_true, ck_true]
      refine ih _ ⟨k + 1, by omega, ?_⟩ (by simp; omega)
      simp only [refS, take_snoc h, List.map_append, List.map_cons, List.map_nil, List.cons_append, cond_or]
    · have hd : decide ((k : Int) < (l.length : Int)) = false := by simp; omega
      rw [hd]
      have : k = l.length := by omega
      subst this
      simp
  unfold row_Ref
  simp only
  rw [show ((0 : Int)) = ((0 : Nat) : Int) from rfl, h1]
  rfl
theorem ref15_Ref_eq (l : List V_api_Slot) (h : l.length ≤ 1000) (r : Int) (mu : Bool) : ref15_Ref ((l, ()), r, mu, ()) = some ((refS l r mu, ()), ()) := by
  have h1 : lim ref15_Ref_l6_step ((l, ()), mu, [(r, false, ())], ((0 : Nat) : Int), ()) = some (.inl (refS l r mu, (l, ()), ())) := by
    refine lim_at (fun x => ∃ k : Nat, k ≤ l.length ∧ x = ((l, ()), mu, refS (l.take k) r mu, (k : Int), ())) (fun x => l.length - x.2.2.2.1.toNat) (fun g x hx ih => ?_) ⟨0, by omega, rfl⟩
    obtain ⟨k, hk, rfl⟩ := hx
    unfold ref15_Ref_l6_step
    simp only
    by_cases h : k < l.length
    · have hd : decide ((k : Int) < (l.length : Int)) = true := by simp; omega
      rw [hd, inB_nat h, wrap_succ (by omega), rdL_nat _ _ h, roomB_ok (by simp [refS]; omega)]
      simp only [cond_true, ck_true]
      refine ih _ ⟨k + 1, by omega, ?_⟩ (by simp; omega)
      simp only [refS, take_snoc h, List.map_append, List.map_cons, List.map_nil, List.cons_append, cond_or]
    · have hd : decide ((k : Int) < (l.length : Int)) = false := by simp; omega
      rw [hd]
      have : k = l.length := by omega
      subst this
      simp
  unfold ref15_Ref
  simp only
  rw [show ((0 : Int)) = ((0 : Nat) : Int) from rfl, h1]
  rfl
theorem clone_eq (l : List V_api_Slot) (h : l.length ≤ 1000) : slices_Clone_80 (l, ()) = some (l, ()) := by
  unfold slices_Clone_80
  simp only [List.nil_append]
  rw [roomB_ok (by omega)]
  cases l with
  | nil => simp [agree_same]
  | cons _ _ => simp
theorem deref_eq (l : List V_api_Slot) (h : l.length ≤ 1000) : row_Deref ((l, ()), ()) = ref15_Deref ((l, ()), ()) := by
  unfold row_Deref ref15_Deref
  simp only
  rw [clone_eq _ (by rw [List.length_drop]; omega)]
  rfl

/-- With other regions. -/
def good (names : List Int) (s : V_api_Slot) : Prop := 0 ≤ s.1 ∧ s.1 < names.length
def named (names : List Int) (s : V_api_Slot) : V_api_Slot := (names.getD s.1.toNat 0, s.2.1, ())
def Subs (names : List Int) (l : List V_api_Slot) (y : Option (V_api_Type × Int × Unit)) : Prop :=
  ((∀ s ∈ l, good names s) ∧ y = some ((l.map (named names), ()), 0, ())) ∨ ((¬ ∀ s ∈ l, good names s) ∧ y = some (([], ()), 7, ()))
theorem Subs.eq {names : List Int} {l : List V_api_Slot} {y z : Option (V_api_Type × Int × Unit)} (h : Subs names l y) (k : Subs names l z) : y = z := by
  rcases h with ⟨h1, rfl⟩ | ⟨h1, rfl⟩ <;> rcases k with ⟨k1, rfl⟩ | ⟨k1, rfl⟩
  · rfl
  · exact absurd h1 k1
  · exact absurd k1 h1
  · rfl
theorem bad_or (names : List Int) (n : Int) : (decide (n < 0) || decide (n ≥ (names.length : Int))) = true ↔ ¬ (0 ≤ n ∧ n < names.length) := by
  simp only [Bool.or_eq_true, decide_eq_true_eq]
  omega
theorem clone_p_eq (l : List V_api_Slot) (h : l.length ≤ 1000) : slices_Clone_80_p0 (l, ()) = some (.inl (l, ())) := by
  unfold slices_Clone_80_p0
  simp only [List.nil_append]
  rw [roomB_ok (by omega)]
  cases l with
  | nil => simp [agree_same]
  | cons _ _ => simp

theorem row_Subst_eq (l : List V_api_Slot) (h : l.length ≤ 1000) (names : List Int) : Subs names l (row_Subst ((l, ()), names, ())) := by
  have h1 : ∃ y, (((∀ s ∈ l, good names s) ∧ y = .inr (.inl (([], ()), (l.map (named names), ()), ()))) ∨ ((¬ ∀ s ∈ l, good names s) ∧ ∃ c, y = .inl ((7 : Int), ((), ()), (c, ()), ()))) ∧
      lim row_Subst_l6_step ((([] : List V_api_Slot), ()), (l, ()), names, (l.length : Int), ((0 : Nat) : Int), ()) = some y := by
    refine lim_ex (fun x => ∃ k : Nat, k ≤ l.length ∧ (∀ s ∈ l.take k, good names s) ∧ x = (([], ()), ((l.take k).map (named names) ++ l.drop k, ()), names, (l.length : Int), (k : Int), ())) (fun x => l.length - x.2.2.2.2.1.toNat) _ (fun x hx => ?_) ⟨0, by omega, by simp, by simp⟩
    obtain ⟨k, hk, hg, rfl⟩ := hx
    unfold row_Subst_l6_step
    simp only
    by_cases h : k < l.length
    · have hlen : ((l.take k).map (named names) ++ l.drop k).length = l.length := by simp; omega
      have hget : ((l.take k).map (named names) ++ l.drop k).getD k (Ty.dflt t_api_Slot) = l[k] := by
        rw [List.getD_eq_getElem?_getD, List.getElem?_append_right (by simp; omega)]
        simp [List.length_take, Nat.min_eq_left hk, h]
      rw [dlt h, hlen, inB_nat h, wrap_succ (by omega)]
      simp only [cond_true, ck_true, Int.toNat_natCast, cond_or, hget]
      by_cases hb : good names l[k]
      · have hb2 : (decide (l[k].1 < 0) || decide (l[k].1 ≥ (names.length : Int))) = false := by
          rw [Bool.eq_false_iff]
          exact fun e => (bad_or names _).1 e hb
        refine .inr ⟨_, ⟨k + 1, by omega, ?_, ?_⟩, ?_, fun g => by rw [hb2, inB_iff.2 hb]; rfl⟩
        · rw [take_snoc h]
          intro s hs
          rcases List.mem_append.1 hs with hs | hs
          · exact hg s hs
          · rw [List.mem_singleton.1 hs]; exact hb
        · have hset : ((l.take k).map (named names) ++ l.drop k).set k (named names l[k]) = (l.take (k + 1)).map (named names) ++ l.drop (k + 1) := by
            rw [List.set_append_right _ _ (by simp; omega)]
            simp only [List.length_map, List.length_take, Nat.min_eq_left hk, Nat.sub_self]
            rw [List.drop_eq_getElem_cons h]
            rw [take_snoc h, List.map_append]
            simp only [List.set_cons_zero, List.map_cons, List.map_nil, List.append_assoc, List.cons_append, List.nil_append]
          rw [← hset]
          simp only [named, rdL]
          rfl
        · simp only
          omega
      · have hb2 : (decide (l[k].1 < 0) || decide (l[k].1 ≥ (names.length : Int))) = true := (bad_or names _).2 hb
        refine .inl ⟨_, .inr ⟨fun hall => hb (hall _ (List.getElem_mem h)), _, rfl⟩, fun g => by rw [hb2]; rfl⟩
    · have : k = l.length := by omega
      subst this
      refine .inl ⟨_, .inl ⟨by simpa using hg, rfl⟩, fun g => ?_⟩
      rw [dge h]
      simp only [cond_false, List.take_length, List.drop_length, List.append_nil]
  obtain ⟨y, hy, hl⟩ := h1
  unfold row_Subst row_Clone_p0
  simp only
  rw [clone_p_eq l h]
  simp only [Option.bind_some, out1_inl]
  rw [show ((0 : Int)) = ((0 : Nat) : Int) from rfl, hl]
  rcases hy with ⟨h1, rfl⟩ | ⟨h1, c, rfl⟩
  · exact .inl ⟨h1, rfl⟩
  · exact .inr ⟨h1, rfl⟩

theorem ref15_Subst_eq (l : List V_api_Slot) (h : l.length ≤ 1000) (names : List Int) : Subs names l (ref15_Subst ((l, ()), names, ())) := by
  have h1 : ∃ y, (((∀ s ∈ l, good names s) ∧ y = .inr (.inl (l.map (named names), (l, ()), ([], ()), ()))) ∨ ((¬ ∀ s ∈ l, good names s) ∧ ∃ c, y = .inl ((7 : Int), (l, ()), ((), ()), c, ()))) ∧
      lim ref15_Subst_l6_step ((l, ()), (([] : List V_api_Slot), ()), names, ([] : List V_api_Slot), ((0 : Nat) : Int), ()) = some y := by
    refine lim_ex (fun x => ∃ k : Nat, k ≤ l.length ∧ (∀ s ∈ l.take k, good names s) ∧ x = ((l, ()), ([], ()), names, (l.take k).map (named names), (k : Int), ())) (fun x => l.length - x.2.2.2.2.1.toNat) _ (fun x hx => ?_) ⟨0, by omega, by simp, by simp⟩
    obtain ⟨k, hk, hg, rfl⟩ := hx
    unfold ref15_Subst_l6_step
    simp only
    by_cases h : k < l.length
    · rw [dlt h, inB_nat h, wrap_succ (by omega), rdL_nat _ _ h]
      simp only [cond_true, ck_true, cond_or]
      by_cases hb : good names l[k]
      · have hb2 : (decide (l[k].1 < 0) || decide (l[k].1 ≥ (names.length : Int))) = false := by
          rw [Bool.eq_false_iff]
          exact fun e => (bad_or names _).1 e hb
        refine .inr ⟨_, ⟨k + 1, by omega, ?_, ?_⟩, ?_, fun g => by rw [hb2, inB_iff.2 hb, roomB_ok (by simp; omega)]; rfl⟩
        · rw [take_snoc h]
          intro s hs
          rcases List.mem_append.1 hs with hs | hs
          · exact hg s hs
          · rw [List.mem_singleton.1 hs]; exact hb
        · simp only [take_snoc h, List.map_append, List.map_cons, List.map_nil, named, rdL]
          rfl
        · simp only
          omega
      · have hb2 : (decide (l[k].1 < 0) || decide (l[k].1 ≥ (names.length : Int))) = true := (bad_or names _).2 hb
        refine .inl ⟨_, .inr ⟨fun hall => hb (hall _ (List.getElem_mem h)), _, rfl⟩, fun g => by rw [hb2]; rfl⟩
    · have : k = l.length := by omega
      subst this
      refine .inl ⟨_, .inl ⟨by simpa using hg, rfl⟩, fun g => ?_⟩
      rw [dge h]
      simp
  obtain ⟨y, hy, hl⟩ := h1
  unfold ref15_Subst
  simp only
  rw [show ((0 : Int)) = ((0 : Nat) : Int) from rfl, hl]
  rcases hy with ⟨h1, rfl⟩ | ⟨h1, c, rfl⟩
  · exact .inl ⟨h1, rfl⟩
  · exact .inr ⟨h1, rfl⟩
theorem Subs.ok {names : List Int} {l : List V_api_Slot} {y : Option (V_api_Type × Int × Unit)} (h : Subs names l y) : ∃ l' e, y = some ((l', ()), e, ()) ∧ l'.length ≤ l.length := by
  rcases h with ⟨_, rfl⟩ | ⟨_, rfl⟩
  · exact ⟨_, _, rfl, by simp⟩
  · exact ⟨_, _, rfl, by simp⟩

theorem lim_run {A B : Type} {step : (A → Option B) → A → Option B} {x : A} {y : B} (m : Nat) (h : ∀ k, iter step (k + m) x = some y) : lim step x = some y :=
  lim_eq m fun k hk => by
    obtain ⟨j, rfl⟩ : ∃ j, k = j + m := ⟨k - m, by omega⟩
    exact h j

theorem awake_true : law15_awake () = some (true, ()) := by
  have h1 : lim slices_IndexFunc_120_p0_l4_step ([((5 : Int), false, ()), ((3 : Int), true, ())], (((3 : Int), ()), ()), (2 : Int), (0 : Int), ()) = some (.inl ((1 : Int), (((3 : Int), ()), ()), ())) := lim_run 3 (fun k => by kernel_rfl)
  have h2 : lim row_Check_l8_step ((5 : Int), [((5 : Int), false, ()), ((3 : Int), true, ())], (2 : Int), (0 : Int), ()) = some (.inl ((7 : Int), ())) := lim_run 3 (fun k => by kernel_rfl)
  unfold law15_awake
  rw [row_Ref_eq _ (by simp)]
  simp only [Option.bind_some, refS, List.map_cons, List.map_nil, Bool.or_true]
  rw [ref15_Same_refl _ (by simp)]
  simp only [Option.bind_some, cond_true]
  unfold row_Has slices_ContainsFunc_103_p0 slices_IndexFunc_120_p0
  simp only
  rw [show (([((5 : Int), false, ()), ((3 : Int), true, ())] : List V_api_Slot).length : Int) = 2 from rfl, h1]
  simp only [Option.bind_some, out2_inl, out1_inl]
  have h3 : row_Check (([((5 : Int), false, ()), ((3 : Int), true, ())], ()), (5 : Int), ()) = some (7, ()) := by
    unfold row_Check
    simp only
    rw [show (([((5 : Int), false, ()), ((3 : Int), true, ())] : List V_api_Slot).length : Int) = 2 from rfl, h2]
    rfl
  rw [show decide ((1 : Int) ≥ 0) = true from rfl]
  simp only [cond_true, h3, Option.bind_some]
  rfl

end Go.XD


/- RowBack: the plain law. -/
namespace Go.XD

def inR (n : Int) (s : V_api_Slot) : Prop := 0 ≤ s.1 ∧ s.1 < n
theorem bad_or2 (n r : Int) : (decide (r < 0) || decide (r ≥ n)) = true ↔ ¬ (0 ≤ r ∧ r < n) := by
  simp only [Bool.or_eq_true, decide_eq_true_eq]
  omega
/-- Whether a type may be. -/
def Chk (l : List V_api_Slot) (n : Int) (y : Option (Int × Unit)) : Prop :=
  (16 < l.length ∧ y = some (6, ())) ∨ (l.length ≤ 16 ∧ (¬ ∀ s ∈ l, inR n s) ∧ y = some (7, ())) ∨ (l.length ≤ 16 ∧ (∀ s ∈ l, inR n s) ∧ y = some (0, ()))
theorem row_Check_eq (l : List V_api_Slot) (n : Int) : Chk l n (row_Check ((l, ()), n, ())) := by
  unfold row_Check
  simp only
  by_cases h : 16 < l.length
  · have : decide ((l.length : Int) > 16) = true := by simp; omega
    rw [this]
    exact .inl ⟨h, rfl⟩
  · have : decide ((l.length : Int) > 16) = false := by simp; omega
    rw [this]
    have h1 : ∃ y, (((¬ ∀ s ∈ l, inR n s) ∧ y = .inl ((7 : Int), ())) ∨ ((∀ s ∈ l, inR n s) ∧ y = .inr (.inl ()))) ∧ lim row_Check_l8_step (n, l, (l.length : Int), ((0 : Nat) : Int), ()) = some y := by
      refine lim_ex (fun x => ∃ k : Nat, k ≤ l.length ∧ (∀ s ∈ l.take k, inR n s) ∧ x = (n, l, (l.length : Int), (k : Int), ())) (fun x => l.length - x.2.2.2.1.toNat) _ (fun x hx => ?_) ⟨0, by omega, by simp, by simp⟩
      obtain ⟨k, hk, hg, rfl⟩ := hx
      unfold row_Check_l8_step
      simp only
      by_cases h : k < l.length
      · rw [dlt h, inB_nat h, wrap_succ (by omega), rdL_nat _ _ h]
        simp only [cond_true, ck_true, cond_or]
        by_cases hb : inR n l[k]
        · have hb2 : (decide (l[k].1 < 0) || decide (l[k].1 ≥ n)) = false := by
            rw [Bool.eq_false_iff]
            exact fun e => (bad_or2 n _).1 e hb
          refine .inr ⟨_, ⟨k + 1, by omega, ?_, rfl⟩, ?_, fun g => by rw [hb2]; rfl⟩
          · rw [take_snoc h]
            intro s hs
            rcases List.mem_append.1 hs with hs | hs
            · exact hg s hs
            · rw [List.mem_singleton.1 hs]; exact hb
          · simp only
            omega
        · have hb2 : (decide (l[k].1 < 0) || decide (l[k].1 ≥ n)) = true := (bad_or2 n _).2 hb
          exact .inl ⟨_, .inl ⟨fun hall => hb (hall _ (List.getElem_mem h)), rfl⟩, fun g => by rw [hb2]; rfl⟩
      · have : k = l.length := by omega
        subst this
        refine .inl ⟨_, .inr ⟨by simpa using hg, rfl⟩, fun g => ?_⟩
        rw [dge h]
        rfl
    obtain ⟨y, hy, hl⟩ := h1
    simp only [cond_false]
    rw [show ((0 : Int)) = ((0 : Nat) : Int) from rfl, hl]
    rcases hy with ⟨h1, rfl⟩ | ⟨h1, rfl⟩
    · exact .inr (.inl ⟨by omega, h1, rfl⟩)
    · exact .inr (.inr ⟨by omega, h1, rfl⟩)
theorem ref15_Check_eq (l : List V_api_Slot) (n : Int) : Chk l n (ref15_Check ((l, ()), n, ())) := by
  unfold ref15_Check
  simp only
  by_cases h : 16 < l.length
  · have : decide ((l.length : Int) > 16) = true := by simp; omega
    rw [this]
    exact .inl ⟨h, rfl⟩
  · have : decide ((l.length : Int) > 16) = false := by simp; omega
    rw [this]
    have h1 : ∃ y, (((¬ ∀ s ∈ l, inR n s) ∧ y = .inl ((7 : Int), (l, ()), ())) ∨ ((∀ s ∈ l, inR n s) ∧ y = .inr (.inl ((l, ()), ())))) ∧ lim ref15_Check_l8_step ((l, ()), n, ((0 : Nat) : Int), ()) = some y := by
      refine lim_ex (fun x => ∃ k : Nat, k ≤ l.length ∧ (∀ s ∈ l.take k, inR n s) ∧ x = ((l, ()), n, (k : Int), ())) (fun x => l.length - x.2.2.1.toNat) _ (fun x hx => ?_) ⟨0, by omega, by simp, by simp⟩
      obtain ⟨k, hk, hg, rfl⟩ := hx
      unfold ref15_Check_l8_step
      simp only
      by_cases h : k < l.length
      · rw [dlt h, inB_nat h, wrap_succ (by omega), rdL_nat _ _ h]
        simp only [cond_true, ck_true, cond_or]
        by_cases hb : inR n l[k]
        · have hb2 : (decide (l[k].1 < 0) || decide (l[k].1 ≥ n)) = false := by
            rw [Bool.eq_false_iff]
            exact fun e => (bad_or2 n _).1 e hb
          refine .inr ⟨_, ⟨k + 1, by omega, ?_, rfl⟩, ?_, fun g => by (try simp only [Bool.true_or, Bool.not_not, ck_true]); rw [hb2]; rfl⟩
          · rw [take_snoc h]
            intro s hs
            rcases List.mem_append.1 hs with hs | hs
            · exact hg s hs
            · rw [List.mem_singleton.1 hs]; exact hb
          · simp only
            omega
        · have hb2 : (decide (l[k].1 < 0) || decide (l[k].1 ≥ n)) = true := (bad_or2 n _).2 hb
          exact .inl ⟨_, .inl ⟨fun hall => hb (hall _ (List.getElem_mem h)), rfl⟩, fun g => by (try simp only [Bool.true_or, Bool.not_not, ck_true]); rw [hb2]; rfl⟩
      · have : k = l.length := by omega
        subst this
        refine .inl ⟨_, .inr ⟨by simpa using hg, rfl⟩, fun g => ?_⟩
        rw [dge h]
        rfl
    obtain ⟨y, hy, hl⟩ := h1
    simp only [cond_false]
    rw [show ((0 : Int)) = ((0 : Nat) : Int) from rfl, hl]
    rcases hy with ⟨h1, rfl⟩ | ⟨h1, rfl⟩
    · exact .inr (.inl ⟨by omega, h1, rfl⟩)
    · exact .inr (.inr ⟨by omega, h1, rfl⟩)
theorem Chk.eq {l : List V_api_Slot} {n : Int} {y z : Option (Int × Unit)} (h : Chk l n y) (k : Chk l n z) : y = z := by
  rcases h with ⟨h1, rfl⟩ | ⟨h1, h2, rfl⟩ | ⟨h1, h2, rfl⟩ <;> rcases k with ⟨k1, rfl⟩ | ⟨k1, k2, rfl⟩ | ⟨k1, k2, rfl⟩ <;> first | rfl | omega | exact absurd h2 k2 | exact absurd k2 h2
theorem Chk.ok {l : List V_api_Slot} {n : Int} {y : Option (Int × Unit)} (h : Chk l n y) : ∃ e, y = some (e, ()) ∧ (e = 0 → l.length ≤ 16 ∧ ∀ s ∈ l, inR n s) := by
  rcases h with ⟨h1, rfl⟩ | ⟨h1, h2, rfl⟩ | ⟨h1, h2, rfl⟩
  · exact ⟨_, rfl, fun e => by cases e⟩
  · exact ⟨_, rfl, fun e => by cases e⟩
  · exact ⟨_, rfl, fun _ => ⟨h1, h2⟩⟩

theorem row_Shape_map (l : List V_api_Slot) (h : l.length ≤ 1000) (f : V_api_Slot → V_api_Slot) (hf : ∀ s, (f s).2.1 = s.2.1) : row_Shape ((l.map f, ()), (l, ()), ()) = some (true, ()) := by
  have h1 : lim slices_EqualFunc_82_p0_l8_step (l, (), l.map f, ((l.map f).length : Int), ((0 : Nat) : Int), ()) = some (.inr (.inl ())) := by
    refine lim_at (fun x => ∃ k : Nat, k ≤ l.length ∧ x = (l, (), l.map f, ((l.map f).length : Int), (k : Int), ())) (fun x => l.length - x.2.2.2.2.1.toNat) (fun g x hx ih => ?_) ⟨0, by omega, rfl⟩
    obtain ⟨k, hk, rfl⟩ := hx
    unfold slices_EqualFunc_82_p0_l8_step
    simp only
    rw [List.length_map] at ih ⊢
    by_cases h : k < l.length
    · have h' : k < (l.map f).length := by simpa using h
      rw [dlt h, inB_nat h, wrap_succ (by omega), rdL_nat t_api_Slot l h, rdL_nat t_api_Slot (l.map f) h']
      simp only [cond_true, ck_true, row_Shape_1, Option.bind_some, List.getElem_map, hf, beq_self_eq_true, Bool.not_true, cond_false]
      exact ih _ ⟨k + 1, by omega, rfl⟩ (by simp; omega)
    · rw [dge h]
      rfl
  unfold row_Shape slices_EqualFunc_82_p0
  simp only
  rw [show ((0 : Int)) = ((0 : Nat) : Int) from rfl, h1, List.length_map]
  simp
theorem row_Same_refl (l : List V_api_Slot) (h : l.length ≤ 1000) : row_Same ((l, ()), (l, ()), ()) = some (true, ()) := by
  have h1 : lim slices_Equal_84_l8_step (l, l, (l.length : Int), ((0 : Nat) : Int), ()) = some (.inr (.inl ())) := by
    refine lim_at (fun x => ∃ k : Nat, k ≤ l.length ∧ x = (l, l, (l.length : Int), (k : Int), ())) (fun x => l.length - x.2.2.2.1.toNat) (fun g x hx ih => ?_) ⟨0, by omega, rfl⟩
    obtain ⟨k, hk, rfl⟩ := hx
    unfold slices_Equal_84_l8_step
    simp only
    by_cases h : k < l.length
    · rw [dlt h, inB_nat h, wrap_succ (by omega), rdL_nat _ _ h]
      simp only [cond_true, ck_true, beq_self_eq_true, Bool.and_self, Bool.not_true, cond_false]
      exact ih _ ⟨k + 1, by omega, rfl⟩ (by simp; omega)
    · rw [dge h]
      rfl
  unfold row_Same slices_Equal_84
  simp only
  rw [show ((0 : Int)) = ((0 : Nat) : Int) from rfl, h1]
  simp
theorem lim_one {A B : Type} {step : (A → Option B) → A → Option B} {x : A} {y : B} (h : ∀ g, step g x = some y) : lim step x = some y :=
  lim_eq 1 fun k hk => by
    cases k with
    | zero => omega
    | succ k => exact h _
/-- A first slot of another kind. -/
theorem row_Same_turn (s : V_api_Slot) (q : List V_api_Slot) (h : (s :: q).length ≤ 1000) : row_Same (((s.1, !s.2.1, s.2.2) :: q, ()), (s :: q, ()), ()) = some (false, ()) := by
  have h1 : lim slices_Equal_84_l8_step ((s.1, !s.2.1, s.2.2) :: q, s :: q, (((s.1, !s.2.1, s.2.2) :: q : List V_api_Slot).length : Int), ((0 : Nat) : Int), ()) = some (.inl (false, ())) := by
    refine lim_one fun g => ?_
    unfold slices_Equal_84_l8_step
    simp only
    rw [dlt (by simp), inB_nat (by simp), inB_nat (by simp), rdL_nat _ _ (by simp), rdL_nat _ _ (by simp)]
    simp only [cond_true, ck_true, List.getElem_cons_zero]
    cases s.2.1 <;> simp
  unfold row_Same slices_Equal_84
  simp only
  rw [show ((0 : Int)) = ((0 : Nat) : Int) from rfl, h1]
  simp
theorem row_Shape_turn (s : V_api_Slot) (q : List V_api_Slot) (h : (s :: q).length ≤ 1000) : row_Shape (((s.1, !s.2.1, s.2.2) :: q, ()), (s :: q, ()), ()) = some (false, ()) := by
  have h1 : lim slices_EqualFunc_82_p0_l8_step (s :: q, (), (s.1, !s.2.1, s.2.2) :: q, (((s.1, !s.2.1, s.2.2) :: q : List V_api_Slot).length : Int), ((0 : Nat) : Int), ()) = some (.inl (false, ())) := by
    refine lim_one fun g => ?_
    unfold slices_EqualFunc_82_p0_l8_step
    simp only
    rw [dlt (by simp), inB_nat (by simp), inB_nat (by simp), rdL_nat _ _ (by simp), rdL_nat _ _ (by simp)]
    simp only [cond_true, ck_true, List.getElem_cons_zero, row_Shape_1, Option.bind_some]
    cases s.2.1 <;> simp
  unfold row_Shape slices_EqualFunc_82_p0
  simp only
  rw [show ((0 : Int)) = ((0 : Nat) : Int) from rfl, h1]
  simp
theorem clone_row_eq (l : List V_api_Slot) (h : l.length ≤ 1000) : row_Clone_p0 ((l, ()), ()) = some (.inl ((l, ()), ())) := by
  unfold row_Clone_p0
  simp only
  rw [clone_p_eq l h]
  rfl
def upto : List Int := (List.range 40).map fun (i : Nat) => (i : Int)
def down : List Int := (List.range 40).map fun (i : Nat) => 39 - (i : Int)
theorem names_eq : lim law15_RowBack_l16_step (([] : List Int), ([] : List Int), (0 : Int), ()) = some (.inl (upto, down, ())) := lim_run 41 (fun k => by kernel_rfl)
theorem upto_at {r : Int} (h : 0 ≤ r ∧ r < 40) : upto.getD r.toNat 0 = r := by
  unfold upto
  rw [List.getD_eq_getElem?_getD, List.getElem?_map, List.getElem?_range (by omega)]
  simp; omega
theorem down_at {r : Int} (h : 0 ≤ r ∧ r < 40) : down.getD r.toNat 0 = 39 - r := by
  unfold down
  rw [List.getD_eq_getElem?_getD, List.getElem?_map, List.getElem?_range (by omega)]
  simp; omega
theorem subst_upto (l : List V_api_Slot) (h : l.length ≤ 16) (hr : ∀ s ∈ l, inR 40 s) : row_Subst ((l, ()), upto, ()) = some ((l, ()), 0, ()) := by
  rcases row_Subst_eq l (by omega) upto with ⟨_, e⟩ | ⟨hn, _⟩
  · rw [e]
    have : l.map (named upto) = l := by
      rw [List.map_congr_left (g := id), List.map_id]
      intro s hs
      simp only [named, upto_at (hr s hs), id]
    rw [this]
  · exact absurd (fun s hs => by
      have := hr s hs
      unfold inR at this
      exact ⟨this.1, by simp [upto]; exact this.2⟩) hn
theorem subst_down (l : List V_api_Slot) (h : l.length ≤ 16) (hr : ∀ s ∈ l, inR 40 s) : row_Subst ((l, ()), down, ()) = some ((l.map (named down), ()), 0, ()) := by
  rcases row_Subst_eq l (by omega) down with ⟨_, e⟩ | ⟨hn, _⟩
  · exact e
  · exact absurd (fun s hs => by
      have := hr s hs
      unfold inR at this
      exact ⟨this.1, by simp [down]; exact this.2⟩) hn
theorem down_in (l : List V_api_Slot) (hr : ∀ s ∈ l, inR 40 s) : ∀ s ∈ l.map (named down), inR 40 s := by
  intro s hs
  obtain ⟨s', h1, rfl⟩ := List.mem_map.1 hs
  have := hr s' h1
  unfold inR at this ⊢
  simp only [named, down_at this]
  omega
theorem down_down (l : List V_api_Slot) (hr : ∀ s ∈ l, inR 40 s) : (l.map (named down)).map (named down) = l := by
  rw [List.map_map, List.map_congr_left (g := id), List.map_id]
  intro s hs
  have h1 := hr s hs
  unfold inR at h1
  simp only [Function.comp, named, down_at h1, id]
  rw [down_at (by omega)]
  have e : 39 - (39 - s.1) = s.1 := by omega
  rw [e]

theorem deref_ref (l : List V_api_Slot) (h : l.length ≤ 16) (r : Int) (mu : Bool) : row_Deref ((refS l r mu, ()), ()) = some ((l.map fun s => (s.1, s.2.1 || mu, ()), ()), r, true, ()) := by
  unfold row_Deref
  simp only
  have e1 : inB (0 : Int) (refS l r mu).length = true := inB_nat (i := 0) (by simp [refS])
  rw [e1]
  have e3 : (((refS l r mu).length : Int) == 0) = false := by
    rw [Bool.eq_false_iff]
    intro e
    simp [refS] at e
    omega
  have e4 : rdL t_api_Slot (refS l r mu) 0 = (r, false, ()) := rfl
  have e5 : (decide ((0 : Int) ≤ 1) && decide ((1 : Int) ≤ ((refS l r mu).length : Nat))) = true := by simp [refS]; omega
  rw [e3, e4, e5]
  simp only [Bool.true_or, ck_true, cond_false]
  have e6 : (refS l r mu).drop (1 : Int).toNat = l.map fun s => (s.1, s.2.1 || mu, ()) := rfl
  rw [e6, clone_eq _ (by simp; omega)]
  rfl

theorem j271_ok (l : List V_api_Slot) (h : l.length ≤ 16) : ∃ k : List V_api_Slot, law15_RowBack_j271_v ((l, ()), (l, ()), decide ((l.length : Int) > 0), ()) = some (.inr (.inl ((l, ()), (k, ()), ()))) := by
  unfold law15_RowBack_j271_v
  simp only
  cases l with
  | nil => exact ⟨[], rfl⟩
  | cons s q =>
    have e1 : inB (0 : Int) (s :: q).length = true := inB_nat (i := 0) (by simp)
    have e2 : decide (((s :: q).length : Int) > 0) = true := by simp
    have e3 : (s :: q).set (0 : Int).toNat (((s :: q).getD (0 : Int).toNat (Ty.dflt t_api_Slot)).1, !((s :: q).getD (0 : Int).toNat (Ty.dflt t_api_Slot)).2.1, ((s :: q).getD (0 : Int).toNat (Ty.dflt t_api_Slot)).2.2) = (s.1, !s.2.1, s.2.2) :: q := rfl
    rw [e1, e2, e3]
    simp only [cond_true, ck_true]
    rw [row_Same_turn s q (by omega)]
    simp only [Option.bind_some, Bool.not_false, cond_true]
    rw [row_Shape_turn s q (by omega)]
    exact ⟨_, rfl⟩

theorem law15_RowBack_true (x : V_api_Type × Int × Bool × Unit) : law15_RowBack x = some (true, ()) := by
  obtain ⟨⟨l, ⟨⟩⟩, r, mu, ⟨⟩⟩ := x
  unfold law15_RowBack
  simp only
  have c1 := ref15_Check_eq l 40
  have c2 := row_Check_eq l 40
  rw [c2.eq c1]
  obtain ⟨e, he, h0⟩ := c1.ok
  rw [he]
  simp only [Option.bind_some]
  by_cases hz : e = 0
  · obtain ⟨hl, hr⟩ := h0 hz
    subst hz
    simp only [bne_self_eq_false, cond_false]
    rw [row_Ref_eq l (by omega)]
    simp only [Option.bind_some]
    rw [deref_ref l hl]
    simp only [Option.bind_some, Bool.not_true, bne_self_eq_false, cond_false, Bool.not_false, cond_true]
    rw [names_eq]
    simp only [Option.bind_some, out1_inl]
    rw [subst_upto l hl hr, subst_down l hl hr]
    simp only [Option.bind_some]
    rw [subst_down _ (by simpa using hl) (down_in l hr), down_down l hr]
    simp only [Option.bind_some, bne_self_eq_false, cond_false, Bool.not_false, cond_true, Bool.not_true]
    rw [ref15_Same_refl l (by omega)]
    simp only [Option.bind_some, Bool.not_true, Bool.not_false, cond_true, cond_false]
    rw [row_Shape_map l (by omega) (named down) (fun s => rfl)]
    simp only [Option.bind_some, Bool.not_true, Bool.not_false, cond_true, cond_false]
    rw [clone_row_eq l (by omega)]
    simp only [Option.bind_some, out1_inl]
    obtain ⟨k, hk⟩ := j271_ok l hl
    rw [hk]
    simp only [Option.bind_some, out2_inr]
    rw [row_Same_refl l (by omega)]
    simp only [Option.bind_some, cond_true, awake_true, List.length_map, bne_self_eq_false, cond_false]
    cases mu with
    | true => rfl
    | false =>
      have hm : (l.map fun s => (s.1, s.2.1 || false, ())) = l := by
        rw [List.map_congr_left (g := id), List.map_id]
        intro s _
        simp
      rw [hm, ref15_Same_refl l (by omega)]
      rfl
  · have hb : (e != 0) = true := by simpa using hz
    rw [hb]
    simp only [cond_true, beq_self_eq_true, awake_true, Option.bind_some]
end Go.XD


/- The row: RowBack returns true, for every input. -/
namespace Go.Proofs.Ytpgmlgdbchjhfaa
open Go.XD

theorem rowBack_own : ownKnob Try.prog.godebug = none := by kernel_rfl
theorem rowBack_lifted (os : Os) (started : os.Started) (H : Type) (enc : TypeId × Value → H) :
    ReturnsInHanded {} Try.checked os 7 .any (Rows.rowBackSpec.pre6 enc Try.prog Try.f7 Rows.rowBackRow.domain false) (Rows.rowBackSpec.post enc Try.prog Try.f7 false true false false) :=
  law_ok (C := Try.checked) started rowBack_own (by kernel_rfl) Try.func7
    (ChangeSpec.witness6 (enc := enc) (C := Try.checked) false ⟨#[], #[.agg #[.slice none 0 0], .int .i64 0, .bool false], []⟩ 8 (by kernel_rfl) (by kernel_rfl) (by kernel_rfl) (by kernel_rfl))
    rfl (fun ds h => by
      match ds, h with
      | [_, _, _], _ => rfl) rfl (rt := 4) (by kernel_rfl) (by kernel_rfl) law15_RowBack_ok law15_RowBack_true (by kernel_rfl) (by kernel_rfl)
theorem rowBack_holds : Rows.RowBackSaid :=
  OpenClaim.holds_of_wide 7 Try.f7 rfl rfl rfl rfl rfl rfl rfl ⟨rfl, rfl, rfl, rfl, rfl⟩ rfl rfl rfl rfl rfl (by kernel_rfl) Try.func7 (by kernel_rfl)
    (of_decide_eq_true (by kernel_rfl)) (by unfold Func.isWrapper; first | (rw [if_pos (by decide +kernel)]; kernel_rfl) | (rw [if_neg (by decide +kernel)]; exact ⟨rfl, rfl⟩))
    (fun os started H enc _ => rowBack_lifted os started H enc)
#print axioms rowBack_holds
end Go.Proofs.Ytpgmlgdbchjhfaa


