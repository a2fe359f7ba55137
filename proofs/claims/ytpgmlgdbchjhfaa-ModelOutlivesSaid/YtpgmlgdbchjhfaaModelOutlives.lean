/- For every input the law ModelOutlives returns true, and its arguments read as they did: no condition. -/
import Derived.Test.YtpgmlgdbchjhfaaProg
import Derived.KernelRfl
import Derived.Test.YtpgmlgdbchjhfaaRows
import Derived.JoinedOf
import Derived.Test.YtpgmlgdbchjhfaaYd
set_option linter.unusedVariables false
set_option linter.unusedSimpArgs false
set_option linter.unusedSectionVars false
set_option linter.unnecessarySimpa false
set_option linter.deprecated false
set_option maxRecDepth 100000
namespace Go.XD
open Go.Proofs

abbrev t_easementref08_Pair : Ty := (.st (.cons (.int .i64) (.cons (.int .i64) .nil)))
abbrev V_easementref08_Pair : Type := (Int × Int × Unit)
abbrev t_api_Slot : Ty := (.st (.cons (.int .i64) (.cons .bool .nil)))
abbrev V_api_Slot : Type := (Int × Bool × Unit)
abbrev t_api_Type : Ty := (.st (.cons (.lst t_api_Slot) .nil))
abbrev V_api_Type : Type := ((List V_api_Slot) × Unit)
abbrev t_api_Sig : Ty := (.st (.cons (.int .i64) (.cons (.lst t_easementref08_Pair) (.cons (.lst t_api_Type) (.cons (.lst t_api_Slot) .nil)))))
abbrev V_api_Sig : Type := (Int × (List V_easementref08_Pair) × (List V_api_Type) × (List V_api_Slot) × Unit)
abbrev t_api_Prov : Ty := (.st (.cons (.int .i64) (.cons (.int .i64) (.cons (.int .i64) (.cons (.int .i64) (.cons .bool .nil))))))
abbrev V_api_Prov : Type := (Int × Int × Int × Int × Bool × Unit)
abbrev t_api_Block : Ty := (.st (.cons (.lst t_api_Prov) (.cons (.int .i64) (.cons (.int .i64) (.cons (.int .i64) (.cons (.lst (.int .i64)) (.cons (.lst (.int .i64)) (.cons (.lst (.int .i64)) .nil))))))))
abbrev V_api_Block : Type := ((List V_api_Prov) × Int × Int × Int × (List Int) × (List Int) × (List Int) × Unit)
abbrev t_api_Edge : Ty := (.st (.cons (.int .i64) (.cons (.int .i64) (.cons (.int .i64) (.cons (.int .i64) (.cons (.int .i64) (.cons (.int .i64) (.cons .bool .nil))))))))
abbrev V_api_Edge : Type := (Int × Int × Int × Int × Int × Int × Bool × Unit)
abbrev t_graph_Graph : Ty := (.st (.cons (.int .i64) (.cons (.lst t_easementref08_Pair) (.cons (.lst (.int .i32)) (.cons (.lst (.int .i32)) (.cons (.lst (.int .i32)) (.cons (.lst (.int .i32)) .nil)))))))
abbrev V_graph_Graph : Type := (Int × (List V_easementref08_Pair) × (List Int) × (List Int) × (List Int) × (List Int) × Unit)
abbrev t_api_Body : Ty := (.st (.cons (.int .i64) (.cons (.int .i64) (.cons (.lst t_easementref08_Pair) (.cons (.lst t_api_Type) (.cons (.lst t_api_Slot) (.cons (.lst t_api_Sig) (.cons (.lst t_api_Block) .nil))))))))
abbrev V_api_Body : Type := (Int × Int × (List V_easementref08_Pair) × (List V_api_Type) × (List V_api_Slot) × (List V_api_Sig) × (List V_api_Block) × Unit)

/-! ### easement/graph.lay$1: function 166, at objects -/
noncomputable def graph_lay_1_p0_code : Code := Try.f166.body.getD .skip
noncomputable def graph_lay_1_p0_fs : List (Nat × Ctr) := []
noncomputable def graph_lay_1_p0_is : List (Nat × List PI) := []
theorem graph_lay_1_p0_fsok : FsOK Try.prog graph_lay_1_p0_fs := trivial
theorem graph_lay_1_p0_isok : IsOK Try.prog graph_lay_1_p0_is := trivial
def graph_lay_1_p0_fz : List (Nat × List Nat) := []
noncomputable def graph_lay_1_p0_ls0 : List (Nat × LCtr) := []
theorem graph_lay_1_p0_lsok0 : LsOK Try.prog Try.f166.ntmps graph_lay_1_p0_code graph_lay_1_p0_ls0 := trivial
noncomputable def graph_lay_1_p0 (x : (V_easementref08_Pair × (Bool × Unit) × Unit)) : Option ((Int × (Bool × Unit) × Unit) ⊕ Empty) :=
  cond (x.2.1.1)
    (some (.inl (x.1.2.1, (x.2.1.1, ()), ())))
    (some (.inl (x.1.1, (x.2.1.1, ()), ())))
noncomputable def graph_lay_1_p0_L : LCtr := ⟨[0, 1], (.cons (.val t_easementref08_Pair) (.cons (.ptr (.cons (.val .bool) .nil)) .nil)), [], [], [⟨.ret, [3, 1], (.cons (.val (.int .i64)) (.cons (.ptr (.cons (.val .bool) .nil)) .nil)), [some 0]⟩], [], graph_lay_1_p0⟩
noncomputable def graph_lay_1_p0_c : PI := ⟨Try.f166.ntmps, graph_lay_1_p0_code, Try.f166.results.toList, graph_lay_1_p0_L⟩
theorem graph_lay_1_p0_ok : PIOK Try.prog 166 graph_lay_1_p0_c :=
  proc_at (L := graph_lay_1_p0_L) (fz := graph_lay_1_p0_fz) graph_lay_1_p0_fsok graph_lay_1_p0_isok Try.func166 (by kernel_rfl) (by kernel_rfl) graph_lay_1_p0_lsok0 (by kernel_rfl) (fun x => by kernel_rfl)
/-! ### easement/graph.lay: function 151 -/
noncomputable def graph_lay_code : Code := Try.f151.body.getD .skip
noncomputable def graph_lay_fs : List (Nat × Ctr) := []
noncomputable def graph_lay_is : List (Nat × List PI) := [(166, [graph_lay_1_p0_c])]
theorem graph_lay_fsok : FsOK Try.prog graph_lay_fs := trivial
theorem graph_lay_isok : IsOK Try.prog graph_lay_is := ⟨⟨graph_lay_1_p0_ok, trivial⟩, trivial⟩
def graph_lay_fz : List (Nat × List Nat) := []
noncomputable def graph_lay_ls0 : List (Nat × LCtr) := []
theorem graph_lay_lsok0 : LsOK Try.prog Try.f151.ntmps graph_lay_code graph_lay_ls0 := trivial
noncomputable def graph_lay_l8_step (g : (((Bool × Unit) × Unit) × (List Int) × (List V_easementref08_Pair) × Int × Int × Unit) → Option ((((Bool × Unit) × Unit) × (List Int) × Unit) ⊕ Empty)) (x : (((Bool × Unit) × Unit) × (List Int) × (List V_easementref08_Pair) × Int × Int × Unit)) : Option ((((Bool × Unit) × Unit) × (List Int) × Unit) ⊕ Empty) :=
  cond (decide (x.2.2.2.2.1 < x.2.2.2.1))
    (ck (inB x.2.2.2.2.1 (x.2.2.1.length)) <|
    let v1 := rdL t_easementref08_Pair x.2.2.1 x.2.2.2.2.1
    Option.bind (graph_lay_1_p0 ((v1.1, v1.2.1, ()), (x.1.1.1, ()), ())) fun y1 => out1 y1
      (fun z2 =>
        let v2 := IntKind.i64.wrap (z2.1 + (1 : Int))
        ck (inB v2 (x.2.1.length)) <|
        ck (inB v2 (x.2.1.length)) <|
        g (((z2.2.1.1, ()), ()), x.2.1.set v2.toNat (IntKind.i32.wrap ((x.2.1.getD v2.toNat (Ty.dflt (.int .i32))) + (1 : Int))), x.2.2.1, x.2.2.2.1, IntKind.i64.wrap (x.2.2.2.2.1 + (1 : Int)), ())))
    (some (.inl (((x.1.1.1, ()), ()), x.2.1, ())))
noncomputable def graph_lay_l8 : LCtr := ⟨[8, 9, 22, 23, 24], (.cons (.clo 166 (.cons (.ptr (.cons (.val .bool) .nil)) .nil)) (.cons (.own (.int .i32)) (.cons (.val (.lst t_easementref08_Pair)) (.cons (.val (.int .i64)) (.cons (.val (.int .i64)) .nil))))), [some 0, some 1], [0, 1, 8, 9], [⟨(.exit 0), [8, 9], (.cons (.clo 166 (.cons (.ptr (.cons (.val .bool) .nil)) .nil)) (.cons (.own (.int .i32)) .nil)), [some 0, some 1]⟩], [], lim graph_lay_l8_step⟩
noncomputable def graph_lay_ls1 : List (Nat × LCtr) := (8, graph_lay_l8) :: graph_lay_ls0
theorem graph_lay_lsok1 : LsOK Try.prog Try.f151.ntmps graph_lay_code graph_lay_ls1 :=
  loop_at (L := graph_lay_l8) (fz := graph_lay_fz) graph_lay_fsok graph_lay_isok graph_lay_lsok0 (by kernel_rfl) (by kernel_rfl) (by kernel_rfl) (step := graph_lay_l8_step) rfl (fun g x => by kernel_rfl)
noncomputable def graph_lay_l18_step (g : ((List Int) × Int × Int × Unit) → Option (((List Int) × Unit) ⊕ Empty)) (x : ((List Int) × Int × Int × Unit)) : Option (((List Int) × Unit) ⊕ Empty) :=
  cond (decide (x.2.2.1 < x.2.1))
    (let v1 := IntKind.i64.wrap (x.2.2.1 + (1 : Int))
    ck (inB v1 (x.1.length)) <|
    ck (inB x.2.2.1 (x.1.length)) <|
    ck (inB v1 (x.1.length)) <|
    g (x.1.set v1.toNat (IntKind.i32.wrap ((x.1.getD v1.toNat (Ty.dflt (.int .i32))) + (x.1.getD x.2.2.1.toNat (Ty.dflt (.int .i32))))), x.2.1, IntKind.i64.wrap (x.2.2.1 + (1 : Int)), ()))
    (some (.inl (x.1, ())))
noncomputable def graph_lay_l18 : LCtr := ⟨[9, 38, 39], (.cons (.own (.int .i32)) (.cons (.val (.int .i64)) (.cons (.val (.int .i64)) .nil))), [some 0], [1, 8, 9], [⟨(.exit 2), [9], (.cons (.own (.int .i32)) .nil), [some 0]⟩], [], lim graph_lay_l18_step⟩
noncomputable def graph_lay_ls2 : List (Nat × LCtr) := (18, graph_lay_l18) :: graph_lay_ls1
theorem graph_lay_lsok2 : LsOK Try.prog Try.f151.ntmps graph_lay_code graph_lay_ls2 :=
  loop_at (L := graph_lay_l18) (fz := graph_lay_fz) graph_lay_fsok graph_lay_isok graph_lay_lsok1 (by kernel_rfl) (by kernel_rfl) (by kernel_rfl) (step := graph_lay_l18_step) rfl (fun g x => by kernel_rfl)
noncomputable def graph_lay_l32_step (g : (((Bool × Unit) × Unit) × (List Int) × (List Int) × (List V_easementref08_Pair) × Int × Int × Unit) → Option ((((Bool × Unit) × Unit) × (List Int) × (List Int) × Unit) ⊕ Empty)) (x : (((Bool × Unit) × Unit) × (List Int) × (List Int) × (List V_easementref08_Pair) × Int × Int × Unit)) : Option ((((Bool × Unit) × Unit) × (List Int) × (List Int) × Unit) ⊕ Empty) :=
  cond (decide (x.2.2.2.2.2.1 < x.2.2.2.2.1))
    (ck (inB x.2.2.2.2.2.1 (x.2.2.2.1.length)) <|
    let v1 := rdL t_easementref08_Pair x.2.2.2.1 x.2.2.2.2.2.1
    Option.bind (graph_lay_1_p0 ((v1.1, v1.2.1, ()), (x.1.1.1, ()), ())) fun y7 => out1 y7
      (fun z8 =>
        ck (inB z8.1 (x.2.1.length)) <|
        let v2 := x.2.1.getD z8.1.toNat (Ty.dflt (.int .i32))
        ck (inB v2 (x.2.2.1.length)) <|
        ck (inB z8.1 (x.2.1.length)) <|
        ck (inB z8.1 (x.2.1.length)) <|
        g (((z8.2.1.1, ()), ()), x.2.1.set z8.1.toNat (IntKind.i32.wrap ((x.2.1.getD z8.1.toNat (Ty.dflt (.int .i32))) + (1 : Int))), x.2.2.1.set v2.toNat (IntKind.i32.wrap x.2.2.2.2.2.1), x.2.2.2.1, x.2.2.2.2.1, IntKind.i64.wrap (x.2.2.2.2.2.1 + (1 : Int)), ())))
    (some (.inl (((x.1.1.1, ()), ()), x.2.1, x.2.2.1, ())))
noncomputable def graph_lay_l32 : LCtr := ⟨[8, 13, 14, 59, 60, 61], (.cons (.clo 166 (.cons (.ptr (.cons (.val .bool) .nil)) .nil)) (.cons (.own (.int .i32)) (.cons (.own (.int .i32)) (.cons (.val (.lst t_easementref08_Pair)) (.cons (.val (.int .i64)) (.cons (.val (.int .i64)) .nil)))))), [some 0, some 1, some 2], [9, 14], [⟨(.exit 4), [8, 13, 14], (.cons (.clo 166 (.cons (.ptr (.cons (.val .bool) .nil)) .nil)) (.cons (.own (.int .i32)) (.cons (.own (.int .i32)) .nil))), [some 0, some 1, some 2]⟩], [], lim graph_lay_l32_step⟩
noncomputable def graph_lay_ls3 : List (Nat × LCtr) := (32, graph_lay_l32) :: graph_lay_ls2
theorem graph_lay_lsok3 : LsOK Try.prog Try.f151.ntmps graph_lay_code graph_lay_ls3 :=
  loop_at (L := graph_lay_l32) (fz := graph_lay_fz) graph_lay_fsok graph_lay_isok graph_lay_lsok2 (by kernel_rfl) (by kernel_rfl) (by kernel_rfl) (step := graph_lay_l32_step) rfl (fun g x => by kernel_rfl)
noncomputable def graph_lay (x : (Int × (List V_easementref08_Pair) × Bool × Unit)) : Option ((List Int) × (List Int) × Unit) :=
  let v1 := IntKind.i64.wrap (x.1 + (1 : Int))
  ck (decide (0 ≤ v1) && decide (v1 ≤ v1) && decide (v1 * ((6 : Nat) : Int) ≤ 35184372088832)) <|
  Option.bind (lim graph_lay_l8_step (((x.2.2.1, ()), ()), List.replicate v1.toNat ((0 : Int) : Int), x.2.1, (x.2.1.length : Int), (0 : Int), ())) fun y3 => out1 y3
    (fun z4 =>
      Option.bind (lim graph_lay_l18_step (z4.2.1, x.1, (0 : Int), ())) fun y5 => out1 y5
        (fun z6 =>
          ck (roomB (([] : List Int) ++ z6.1).length 6) <|
          ck (decide (0 ≤ (x.2.1.length : Int)) && decide ((x.2.1.length : Int) ≤ (x.2.1.length : Int)) && decide ((x.2.1.length : Int) * ((6 : Nat) : Int) ≤ 35184372088832)) <|
          Option.bind (lim graph_lay_l32_step (((z4.1.1.1, ()), ()), ([] : List Int) ++ z6.1, List.replicate (x.2.1.length : Int).toNat ((0 : Int) : Int), x.2.1, (x.2.1.length : Int), (0 : Int), ())) fun y9 => out1 y9
            (fun z10 =>
              some (z10.2.2.1, z6.1, ()))))
noncomputable def graph_lay_c : Ctr := ⟨(.cons (.int .i64) (.cons (.lst t_easementref08_Pair) (.cons .bool .nil))), (.cons (.lst (.int .i32)) (.cons (.lst (.int .i32)) .nil)), graph_lay, none⟩
theorem graph_lay_ok : CtrOK Try.prog 151 graph_lay_c :=
  fun_at (fz := graph_lay_fz) graph_lay_fsok graph_lay_isok Try.func151 (by kernel_rfl) (c := graph_lay_code) (by kernel_rfl) graph_lay_lsok3 (by kernel_rfl) (fun x => by kernel_rfl)
/-! ### easement/graph.New: function 121 -/
noncomputable def graph_New_code : Code := Try.f121.body.getD .skip
noncomputable def graph_New_fs : List (Nat × Ctr) := [(151, graph_lay_c)]
noncomputable def graph_New_is : List (Nat × List PI) := []
theorem graph_New_fsok : FsOK Try.prog graph_New_fs := ⟨graph_lay_ok, trivial⟩
theorem graph_New_isok : IsOK Try.prog graph_New_is := trivial
def graph_New_fz : List (Nat × List Nat) := []
noncomputable def graph_New_ls0 : List (Nat × LCtr) := []
theorem graph_New_lsok0 : LsOK Try.prog Try.f121.ntmps graph_New_code graph_New_ls0 := trivial
noncomputable def graph_New_l12_step (g : (Int × (List V_easementref08_Pair) × Int × Int × Unit) → Option ((Unit × Int × Unit) ⊕ (Unit ⊕ Empty))) (x : (Int × (List V_easementref08_Pair) × Int × Int × Unit)) : Option ((Unit × Int × Unit) ⊕ (Unit ⊕ Empty)) :=
  cond (decide (x.2.2.2.1 < x.2.2.1))
    (ck (inB x.2.2.2.1 (x.2.1.length)) <|
    let v1 := rdL t_easementref08_Pair x.2.1 x.2.2.2.1
    cond (cond (cond (cond (decide (v1.1 < (0 : Int))) true (decide (v1.1 ≥ x.1))) true (decide (v1.2.1 < (0 : Int)))) true (decide (v1.2.1 ≥ x.1)))
      (some (.inl ((), (7 : Int), ())))
      (g (x.1, x.2.1, x.2.2.1, IntKind.i64.wrap (x.2.2.2.1 + (1 : Int)), ())))
    (some (.inr (.inl ())))
noncomputable def graph_New_l12 : LCtr := ⟨[0, 20, 21, 22], (.cons (.val (.int .i64)) (.cons (.val (.lst t_easementref08_Pair)) (.cons (.val (.int .i64)) (.cons (.val (.int .i64)) .nil)))), [], [0, 1], [⟨.ret, [4, 5], (.cons (.cst true) (.cons (.val (.int .i64)) .nil)), []⟩, ⟨(.exit 1), [], .nil, []⟩], [], lim graph_New_l12_step⟩
noncomputable def graph_New_ls1 : List (Nat × LCtr) := (12, graph_New_l12) :: graph_New_ls0
theorem graph_New_lsok1 : LsOK Try.prog Try.f121.ntmps graph_New_code graph_New_ls1 :=
  loop_at (L := graph_New_l12) (fz := graph_New_fz) graph_New_fsok graph_New_isok graph_New_lsok0 (by kernel_rfl) (by kernel_rfl) (by kernel_rfl) (step := graph_New_l12_step) rfl (fun g x => by kernel_rfl)
noncomputable def graph_New (x : (Int × (List V_easementref08_Pair) × Unit)) : Option ((Option V_graph_Graph) × Int × Unit) :=
  cond (decide (x.1 < (0 : Int)))
    (some ((none : Option V_graph_Graph), (2 : Int), ()))
    (cond (cond (decide (x.1 > (1048576 : Int))) true (decide ((x.2.1.length : Int) > (67108864 : Int))))
      (some ((none : Option V_graph_Graph), (5 : Int), ()))
      (Option.bind (lim graph_New_l12_step (x.1, x.2.1, (x.2.1.length : Int), (0 : Int), ())) fun y1 => out2 y1
        (fun z2 =>
          some ((none : Option V_graph_Graph), z2.2.1, ()))
        (fun z3 =>
          let v1 := ([] : List V_easementref08_Pair)
          ck (roomB (v1 ++ x.2.1).length 19) <|
          Option.bind (graph_lay (x.1, v1 ++ x.2.1, false, ())) fun y4 =>
          Option.bind (graph_lay (x.1, v1 ++ x.2.1, true, ())) fun y5 =>
          some (some (x.1, v1 ++ x.2.1, y4.1, y5.1, y4.2.1, y5.2.1, ()), (0 : Int), ()))))
noncomputable def graph_New_c : Ctr := ⟨(.cons (.int .i64) (.cons (.lst t_easementref08_Pair) .nil)), (.cons (.ptr (.cons (.int .i64) (.cons (.lst t_easementref08_Pair) (.cons (.lst (.int .i32)) (.cons (.lst (.int .i32)) (.cons (.lst (.int .i32)) (.cons (.lst (.int .i32)) .nil))))))) (.cons (.int .i64) .nil)), graph_New, none⟩
theorem graph_New_ok : CtrOK Try.prog 121 graph_New_c :=
  fun_at (fz := graph_New_fz) graph_New_fsok graph_New_isok Try.func121 (by kernel_rfl) (c := graph_New_code) (by kernel_rfl) graph_New_lsok1 (by kernel_rfl) (fun x => by kernel_rfl)
/-! ### easement/cons.Graph: function 106 -/
noncomputable def cons_Graph_code : Code := Try.f106.body.getD .skip
noncomputable def cons_Graph_fs : List (Nat × Ctr) := [(121, graph_New_c)]
noncomputable def cons_Graph_is : List (Nat × List PI) := []
theorem cons_Graph_fsok : FsOK Try.prog cons_Graph_fs := ⟨graph_New_ok, trivial⟩
theorem cons_Graph_isok : IsOK Try.prog cons_Graph_is := trivial
def cons_Graph_fz : List (Nat × List Nat) := []
noncomputable def cons_Graph_ls0 : List (Nat × LCtr) := []
theorem cons_Graph_lsok0 : LsOK Try.prog Try.f106.ntmps cons_Graph_code cons_Graph_ls0 := trivial
noncomputable def cons_Graph_l6_step (g : ((List V_easementref08_Pair) × (List V_api_Edge) × Int × Int × Unit) → Option (((List V_easementref08_Pair) × Unit) ⊕ Empty)) (x : ((List V_easementref08_Pair) × (List V_api_Edge) × Int × Int × Unit)) : Option (((List V_easementref08_Pair) × Unit) ⊕ Empty) :=
  cond (decide (x.2.2.2.1 < x.2.2.1))
    (ck (inB x.2.2.2.1 (x.2.1.length)) <|
    let v1 := rdL t_api_Edge x.2.1 x.2.2.2.1
    let v2 := x.1 ++ [(v1.1, v1.2.1, ())]
    ck (roomB v2.length 19) <|
    g (v2, x.2.1, x.2.2.1, IntKind.i64.wrap (x.2.2.2.1 + (1 : Int)), ()))
    (some (.inl (x.1, ())))
noncomputable def cons_Graph_l6 : LCtr := ⟨[5, 10, 11, 12], (.cons (.own t_easementref08_Pair) (.cons (.val (.lst t_api_Edge)) (.cons (.val (.int .i64)) (.cons (.val (.int .i64)) .nil)))), [none], [2], [⟨(.exit 0), [5], (.cons (.own t_easementref08_Pair) .nil), [none]⟩], [], lim cons_Graph_l6_step⟩
noncomputable def cons_Graph_ls1 : List (Nat × LCtr) := (6, cons_Graph_l6) :: cons_Graph_ls0
theorem cons_Graph_lsok1 : LsOK Try.prog Try.f106.ntmps cons_Graph_code cons_Graph_ls1 :=
  loop_at (L := cons_Graph_l6) (fz := cons_Graph_fz) cons_Graph_fsok cons_Graph_isok cons_Graph_lsok0 (by kernel_rfl) (by kernel_rfl) (by kernel_rfl) (step := cons_Graph_l6_step) rfl (fun g x => by kernel_rfl)
noncomputable def cons_Graph (x : (V_api_Body × (List V_api_Edge) × Unit)) : Option ((Option V_graph_Graph) × Unit) :=
  Option.bind (lim cons_Graph_l6_step (([] : List V_easementref08_Pair), x.2.1, (x.2.1.length : Int), (0 : Int), ())) fun y1 => out1 y1
    (fun z2 =>
      Option.bind (graph_New (x.1.2.1, z2.1, ())) fun y3 =>
      cond (y3.2.1 != (0 : Int))
        (some ((none : Option V_graph_Graph), ()))
        (some (y3.1, ())))
noncomputable def cons_Graph_c : Ctr := ⟨(.cons t_api_Body (.cons (.lst t_api_Edge) .nil)), (.cons (.ptr (.cons (.int .i64) (.cons (.lst t_easementref08_Pair) (.cons (.lst (.int .i32)) (.cons (.lst (.int .i32)) (.cons (.lst (.int .i32)) (.cons (.lst (.int .i32)) .nil))))))) .nil), cons_Graph, none⟩
theorem cons_Graph_ok : CtrOK Try.prog 106 cons_Graph_c :=
  fun_at (fz := cons_Graph_fz) cons_Graph_fsok cons_Graph_isok Try.func106 (by kernel_rfl) (c := cons_Graph_code) (by kernel_rfl) cons_Graph_lsok1 (by kernel_rfl) (fun x => by kernel_rfl)
/-! ### (*easement/graph.Graph).Nodes: function 89 -/
noncomputable def graph_Graph_Nodes_code : Code := Try.f89.body.getD .skip
noncomputable def graph_Graph_Nodes_fs : List (Nat × Ctr) := []
noncomputable def graph_Graph_Nodes_is : List (Nat × List PI) := []
theorem graph_Graph_Nodes_fsok : FsOK Try.prog graph_Graph_Nodes_fs := trivial
theorem graph_Graph_Nodes_isok : IsOK Try.prog graph_Graph_Nodes_is := trivial
def graph_Graph_Nodes_fz : List (Nat × List Nat) := []
noncomputable def graph_Graph_Nodes_ls0 : List (Nat × LCtr) := []
theorem graph_Graph_Nodes_lsok0 : LsOK Try.prog Try.f89.ntmps graph_Graph_Nodes_code graph_Graph_Nodes_ls0 := trivial
noncomputable def graph_Graph_Nodes (x : ((Option V_graph_Graph) × Unit)) : Option (Int × Unit) :=
  cond (x.1.isNone)
    (some ((0 : Int), ()))
    (ck (x.1.isSome) <|
    some ((x.1.getD (Ty.dflt (.cons (.int .i64) (.cons (.lst t_easementref08_Pair) (.cons (.lst (.int .i32)) (.cons (.lst (.int .i32)) (.cons (.lst (.int .i32)) (.cons (.lst (.int .i32)) .nil)))))))).1, ()))
noncomputable def graph_Graph_Nodes_c : Ctr := ⟨(.cons (.ptr (.cons (.int .i64) (.cons (.lst t_easementref08_Pair) (.cons (.lst (.int .i32)) (.cons (.lst (.int .i32)) (.cons (.lst (.int .i32)) (.cons (.lst (.int .i32)) .nil))))))) .nil), (.cons (.int .i64) .nil), graph_Graph_Nodes, none⟩
theorem graph_Graph_Nodes_ok : CtrOK Try.prog 89 graph_Graph_Nodes_c :=
  fun_at (fz := graph_Graph_Nodes_fz) graph_Graph_Nodes_fsok graph_Graph_Nodes_isok Try.func89 (by kernel_rfl) (c := graph_Graph_Nodes_code) (by kernel_rfl) graph_Graph_Nodes_lsok0 (by kernel_rfl) (fun x => by kernel_rfl)
/-! ### easement/graph.ints: function 108 -/
noncomputable def graph_ints_code : Code := Try.f108.body.getD .skip
noncomputable def graph_ints_fs : List (Nat × Ctr) := []
noncomputable def graph_ints_is : List (Nat × List PI) := []
theorem graph_ints_fsok : FsOK Try.prog graph_ints_fs := trivial
theorem graph_ints_isok : IsOK Try.prog graph_ints_is := trivial
def graph_ints_fz : List (Nat × List Nat) := []
noncomputable def graph_ints_ls0 : List (Nat × LCtr) := []
theorem graph_ints_lsok0 : LsOK Try.prog Try.f108.ntmps graph_ints_code graph_ints_ls0 := trivial
noncomputable def graph_ints_l6_step (g : ((List Int) × (List Int) × Int × Int × Unit) → Option (((List Int) × Unit) ⊕ Empty)) (x : ((List Int) × (List Int) × Int × Int × Unit)) : Option (((List Int) × Unit) ⊕ Empty) :=
  cond (decide (x.2.2.2.1 < x.2.2.1))
    (ck (inB x.2.2.2.1 (x.2.1.length)) <|
    ck (inB x.2.2.2.1 (x.1.length)) <|
    g (x.1.set x.2.2.2.1.toNat (IntKind.i64.wrap (rdL (.int .i32) x.2.1 x.2.2.2.1)), x.2.1, x.2.2.1, IntKind.i64.wrap (x.2.2.2.1 + (1 : Int)), ()))
    (some (.inl (x.1, ())))
noncomputable def graph_ints_l6 : LCtr := ⟨[3, 9, 10, 11], (.cons (.own (.int .i64)) (.cons (.val (.lst (.int .i32))) (.cons (.val (.int .i64)) (.cons (.val (.int .i64)) .nil)))), [some 0], [3], [⟨(.exit 0), [3], (.cons (.own (.int .i64)) .nil), [some 0]⟩], [], lim graph_ints_l6_step⟩
noncomputable def graph_ints_ls1 : List (Nat × LCtr) := (6, graph_ints_l6) :: graph_ints_ls0
theorem graph_ints_lsok1 : LsOK Try.prog Try.f108.ntmps graph_ints_code graph_ints_ls1 :=
  loop_at (L := graph_ints_l6) (fz := graph_ints_fz) graph_ints_fsok graph_ints_isok graph_ints_lsok0 (by kernel_rfl) (by kernel_rfl) (by kernel_rfl) (step := graph_ints_l6_step) rfl (fun g x => by kernel_rfl)
noncomputable def graph_ints (x : ((List Int) × Unit)) : Option ((List Int) × Unit) :=
  ck (decide (0 ≤ (x.1.length : Int)) && decide ((x.1.length : Int) ≤ (x.1.length : Int)) && decide ((x.1.length : Int) * ((10 : Nat) : Int) ≤ 35184372088832)) <|
  Option.bind (lim graph_ints_l6_step (List.replicate (x.1.length : Int).toNat ((0 : Int) : Int), x.1, (x.1.length : Int), (0 : Int), ())) fun y1 => out1 y1
    (fun z2 =>
      some (z2.1, ()))
noncomputable def graph_ints_c : Ctr := ⟨(.cons (.lst (.int .i32)) .nil), (.cons (.lst (.int .i64)) .nil), graph_ints, none⟩
theorem graph_ints_ok : CtrOK Try.prog 108 graph_ints_c :=
  fun_at (fz := graph_ints_fz) graph_ints_fsok graph_ints_isok Try.func108 (by kernel_rfl) (c := graph_ints_code) (by kernel_rfl) graph_ints_lsok1 (by kernel_rfl) (fun x => by kernel_rfl)
/-! ### (*easement/graph.Graph).Out: function 90 -/
noncomputable def graph_Graph_Out_code : Code := Try.f90.body.getD .skip
noncomputable def graph_Graph_Out_fs : List (Nat × Ctr) := [(89, graph_Graph_Nodes_c), (108, graph_ints_c)]
noncomputable def graph_Graph_Out_is : List (Nat × List PI) := []
theorem graph_Graph_Out_fsok : FsOK Try.prog graph_Graph_Out_fs := ⟨graph_Graph_Nodes_ok, graph_ints_ok, trivial⟩
theorem graph_Graph_Out_isok : IsOK Try.prog graph_Graph_Out_is := trivial
def graph_Graph_Out_fz : List (Nat × List Nat) := []
noncomputable def graph_Graph_Out_ls0 : List (Nat × LCtr) := []
theorem graph_Graph_Out_lsok0 : LsOK Try.prog Try.f90.ntmps graph_Graph_Out_code graph_Graph_Out_ls0 := trivial
noncomputable def graph_Graph_Out (x : ((Option V_graph_Graph) × Int × Unit)) : Option ((List Int) × Unit) :=
  cond (!(decide (x.2.1 < (0 : Int))))
    (Option.bind (graph_Graph_Nodes (x.1, ())) fun y1 =>
    cond (decide (x.2.1 ≥ y1.1))
      (some (([] : List Int), ()))
      (ck (x.1.isSome) <|
      ck (x.1.isSome) <|
      let v1 := (x.1.getD (Ty.dflt (.cons (.int .i64) (.cons (.lst t_easementref08_Pair) (.cons (.lst (.int .i32)) (.cons (.lst (.int .i32)) (.cons (.lst (.int .i32)) (.cons (.lst (.int .i32)) .nil)))))))).2.2.2.2.1
      ck (inB x.2.1 (v1.length)) <|
      ck (x.1.isSome) <|
      let v2 := IntKind.i64.wrap (x.2.1 + (1 : Int))
      let v3 := (x.1.getD (Ty.dflt (.cons (.int .i64) (.cons (.lst t_easementref08_Pair) (.cons (.lst (.int .i32)) (.cons (.lst (.int .i32)) (.cons (.lst (.int .i32)) (.cons (.lst (.int .i32)) .nil)))))))).2.2.2.2.1
      ck (inB v2 (v3.length)) <|
      let v4 := (x.1.getD (Ty.dflt (.cons (.int .i64) (.cons (.lst t_easementref08_Pair) (.cons (.lst (.int .i32)) (.cons (.lst (.int .i32)) (.cons (.lst (.int .i32)) (.cons (.lst (.int .i32)) .nil)))))))).2.2.1
      ck (decide (0 ≤ (rdL (.int .i32) v1 x.2.1)) && decide ((rdL (.int .i32) v1 x.2.1) ≤ (rdL (.int .i32) v3 v2)) && decide ((rdL (.int .i32) v3 v2) ≤ v4.length)) <|
      Option.bind (graph_ints ((v4.take (rdL (.int .i32) v3 v2).toNat).drop (rdL (.int .i32) v1 x.2.1).toNat, ())) fun y2 =>
      some (y2.1, ())))
    (some (([] : List Int), ()))
noncomputable def graph_Graph_Out_c : Ctr := ⟨(.cons (.ptr (.cons (.int .i64) (.cons (.lst t_easementref08_Pair) (.cons (.lst (.int .i32)) (.cons (.lst (.int .i32)) (.cons (.lst (.int .i32)) (.cons (.lst (.int .i32)) .nil))))))) (.cons (.int .i64) .nil)), (.cons (.lst (.int .i64)) .nil), graph_Graph_Out, none⟩
theorem graph_Graph_Out_ok : CtrOK Try.prog 90 graph_Graph_Out_c :=
  fun_at (fz := graph_Graph_Out_fz) graph_Graph_Out_fsok graph_Graph_Out_isok Try.func90 (by kernel_rfl) (c := graph_Graph_Out_code) (by kernel_rfl) graph_Graph_Out_lsok0 (by kernel_rfl) (fun x => by kernel_rfl)
/-! ### easement/graph.ints: function 108, at objects -/
noncomputable def graph_ints_p0_code : Code := Try.f108.body.getD .skip
noncomputable def graph_ints_p0_fs : List (Nat × Ctr) := []
noncomputable def graph_ints_p0_is : List (Nat × List PI) := []
theorem graph_ints_p0_fsok : FsOK Try.prog graph_ints_p0_fs := trivial
theorem graph_ints_p0_isok : IsOK Try.prog graph_ints_p0_is := trivial
def graph_ints_p0_fz : List (Nat × List Nat) := []
noncomputable def graph_ints_p0_ls0 : List (Nat × LCtr) := []
theorem graph_ints_p0_lsok0 : LsOK Try.prog Try.f108.ntmps graph_ints_p0_code graph_ints_p0_ls0 := trivial
noncomputable def graph_ints_p0_l6_step (g : ((List Int) × (List Int) × Int × Int × Unit) → Option (((List Int) × Unit) ⊕ Empty)) (x : ((List Int) × (List Int) × Int × Int × Unit)) : Option (((List Int) × Unit) ⊕ Empty) :=
  cond (decide (x.2.2.2.1 < x.2.2.1))
    (ck (inB x.2.2.2.1 (x.2.1.length)) <|
    ck (inB x.2.2.2.1 (x.1.length)) <|
    g (x.1.set x.2.2.2.1.toNat (IntKind.i64.wrap (rdL (.int .i32) x.2.1 x.2.2.2.1)), x.2.1, x.2.2.1, IntKind.i64.wrap (x.2.2.2.1 + (1 : Int)), ()))
    (some (.inl (x.1, ())))
noncomputable def graph_ints_p0_l6 : LCtr := ⟨[3, 9, 10, 11], (.cons (.own (.int .i64)) (.cons (.val (.lst (.int .i32))) (.cons (.val (.int .i64)) (.cons (.val (.int .i64)) .nil)))), [some 0], [0, 3], [⟨(.exit 0), [3], (.cons (.own (.int .i64)) .nil), [some 0]⟩], [], lim graph_ints_p0_l6_step⟩
noncomputable def graph_ints_p0_ls1 : List (Nat × LCtr) := (6, graph_ints_p0_l6) :: graph_ints_p0_ls0
theorem graph_ints_p0_lsok1 : LsOK Try.prog Try.f108.ntmps graph_ints_p0_code graph_ints_p0_ls1 :=
  loop_at (L := graph_ints_p0_l6) (fz := graph_ints_p0_fz) graph_ints_p0_fsok graph_ints_p0_isok graph_ints_p0_lsok0 (by kernel_rfl) (by kernel_rfl) (by kernel_rfl) (step := graph_ints_p0_l6_step) rfl (fun g x => by kernel_rfl)
noncomputable def graph_ints_p0 (x : ((List Int) × Unit)) : Option (((List Int) × Unit) ⊕ Empty) :=
  ck (decide (0 ≤ (x.1.length : Int)) && decide ((x.1.length : Int) ≤ (x.1.length : Int)) && decide ((x.1.length : Int) * ((10 : Nat) : Int) ≤ 35184372088832)) <|
  Option.bind (lim graph_ints_p0_l6_step (List.replicate (x.1.length : Int).toNat ((0 : Int) : Int), x.1, (x.1.length : Int), (0 : Int), ())) fun y1 => out1 y1
    (fun z2 =>
      some (.inl (z2.1, ())))
noncomputable def graph_ints_p0_L : LCtr := ⟨[0], (.cons (.val (.lst (.int .i32))) .nil), [], [], [⟨.ret, [2], (.cons (.own (.int .i64)) .nil), [none]⟩], [], graph_ints_p0⟩
noncomputable def graph_ints_p0_c : PI := ⟨Try.f108.ntmps, graph_ints_p0_code, Try.f108.results.toList, graph_ints_p0_L⟩
theorem graph_ints_p0_ok : PIOK Try.prog 108 graph_ints_p0_c :=
  proc_at (L := graph_ints_p0_L) (fz := graph_ints_p0_fz) graph_ints_p0_fsok graph_ints_p0_isok Try.func108 (by kernel_rfl) (by kernel_rfl) graph_ints_p0_lsok1 (by kernel_rfl) (fun x => by kernel_rfl)
/-! ### (*easement/graph.Graph).Out: function 90, at objects -/
noncomputable def graph_Graph_Out_p0_code : Code := Try.f90.body.getD .skip
noncomputable def graph_Graph_Out_p0_fs : List (Nat × Ctr) := [(89, graph_Graph_Nodes_c)]
noncomputable def graph_Graph_Out_p0_is : List (Nat × List PI) := [(108, [graph_ints_p0_c])]
theorem graph_Graph_Out_p0_fsok : FsOK Try.prog graph_Graph_Out_p0_fs := ⟨graph_Graph_Nodes_ok, trivial⟩
theorem graph_Graph_Out_p0_isok : IsOK Try.prog graph_Graph_Out_p0_is := ⟨⟨graph_ints_p0_ok, trivial⟩, trivial⟩
def graph_Graph_Out_p0_fz : List (Nat × List Nat) := []
noncomputable def graph_Graph_Out_p0_ls0 : List (Nat × LCtr) := []
theorem graph_Graph_Out_p0_lsok0 : LsOK Try.prog Try.f90.ntmps graph_Graph_Out_p0_code graph_Graph_Out_p0_ls0 := trivial
noncomputable def graph_Graph_Out_p0 (x : ((Option V_graph_Graph) × Int × Unit)) : Option (((List Int) × Unit) ⊕ Empty) :=
  cond (!(decide (x.2.1 < (0 : Int))))
    (Option.bind (graph_Graph_Nodes (x.1, ())) fun y1 =>
    cond (decide (x.2.1 ≥ y1.1))
      (some (.inl (([] : List Int), ())))
      (ck (x.1.isSome) <|
      ck (x.1.isSome) <|
      let v1 := (x.1.getD (Ty.dflt (.cons (.int .i64) (.cons (.lst t_easementref08_Pair) (.cons (.lst (.int .i32)) (.cons (.lst (.int .i32)) (.cons (.lst (.int .i32)) (.cons (.lst (.int .i32)) .nil)))))))).2.2.2.2.1
      ck (inB x.2.1 (v1.length)) <|
      ck (x.1.isSome) <|
      let v2 := IntKind.i64.wrap (x.2.1 + (1 : Int))
      let v3 := (x.1.getD (Ty.dflt (.cons (.int .i64) (.cons (.lst t_easementref08_Pair) (.cons (.lst (.int .i32)) (.cons (.lst (.int .i32)) (.cons (.lst (.int .i32)) (.cons (.lst (.int .i32)) .nil)))))))).2.2.2.2.1
      ck (inB v2 (v3.length)) <|
      let v4 := (x.1.getD (Ty.dflt (.cons (.int .i64) (.cons (.lst t_easementref08_Pair) (.cons (.lst (.int .i32)) (.cons (.lst (.int .i32)) (.cons (.lst (.int .i32)) (.cons (.lst (.int .i32)) .nil)))))))).2.2.1
      ck (decide (0 ≤ (rdL (.int .i32) v1 x.2.1)) && decide ((rdL (.int .i32) v1 x.2.1) ≤ (rdL (.int .i32) v3 v2)) && decide ((rdL (.int .i32) v3 v2) ≤ v4.length)) <|
      Option.bind (graph_ints_p0 ((v4.take (rdL (.int .i32) v3 v2).toNat).drop (rdL (.int .i32) v1 x.2.1).toNat, ())) fun y2 => out1 y2
        (fun z3 =>
          some (.inl (z3.1, ())))))
    (some (.inl (([] : List Int), ())))
noncomputable def graph_Graph_Out_p0_L : LCtr := ⟨[0, 1], (.cons (.val (.ptr (.cons (.int .i64) (.cons (.lst t_easementref08_Pair) (.cons (.lst (.int .i32)) (.cons (.lst (.int .i32)) (.cons (.lst (.int .i32)) (.cons (.lst (.int .i32)) .nil)))))))) (.cons (.val (.int .i64)) .nil)), [], [], [⟨.ret, [4], (.cons (.own (.int .i64)) .nil), [none]⟩], [], graph_Graph_Out_p0⟩
noncomputable def graph_Graph_Out_p0_c : PI := ⟨Try.f90.ntmps, graph_Graph_Out_p0_code, Try.f90.results.toList, graph_Graph_Out_p0_L⟩
theorem graph_Graph_Out_p0_ok : PIOK Try.prog 90 graph_Graph_Out_p0_c :=
  proc_at (L := graph_Graph_Out_p0_L) (fz := graph_Graph_Out_p0_fz) graph_Graph_Out_p0_fsok graph_Graph_Out_p0_isok Try.func90 (by kernel_rfl) (by kernel_rfl) graph_Graph_Out_p0_lsok0 (by kernel_rfl) (fun x => by kernel_rfl)
/-! ### (*easement/graph.Graph).Next: function 122 -/
noncomputable def graph_Graph_Next_code : Code := Try.f122.body.getD .skip
noncomputable def graph_Graph_Next_fs : List (Nat × Ctr) := []
noncomputable def graph_Graph_Next_is : List (Nat × List PI) := [(90, [graph_Graph_Out_p0_c])]
theorem graph_Graph_Next_fsok : FsOK Try.prog graph_Graph_Next_fs := trivial
theorem graph_Graph_Next_isok : IsOK Try.prog graph_Graph_Next_is := ⟨⟨graph_Graph_Out_p0_ok, trivial⟩, trivial⟩
def graph_Graph_Next_fz : List (Nat × List Nat) := []
noncomputable def graph_Graph_Next_ls0 : List (Nat × LCtr) := []
theorem graph_Graph_Next_lsok0 : LsOK Try.prog Try.f122.ntmps graph_Graph_Next_code graph_Graph_Next_ls0 := trivial
noncomputable def graph_Graph_Next_l6_step (g : ((Option V_graph_Graph) × (List Int) × Int × Int × Unit) → Option (((List Int) × Unit) ⊕ Empty)) (x : ((Option V_graph_Graph) × (List Int) × Int × Int × Unit)) : Option (((List Int) × Unit) ⊕ Empty) :=
  cond (decide (x.2.2.2.1 < x.2.2.1))
    (ck (inB x.2.2.2.1 (x.2.1.length)) <|
    ck (x.1.isSome) <|
    let v1 := x.2.1.getD x.2.2.2.1.toNat (Ty.dflt (.int .i64))
    let v2 := (x.1.getD (Ty.dflt (.cons (.int .i64) (.cons (.lst t_easementref08_Pair) (.cons (.lst (.int .i32)) (.cons (.lst (.int .i32)) (.cons (.lst (.int .i32)) (.cons (.lst (.int .i32)) .nil)))))))).2.1
    ck (inB v1 (v2.length)) <|
    ck (inB x.2.2.2.1 (x.2.1.length)) <|
    g (x.1, x.2.1.set x.2.2.2.1.toNat (rdL t_easementref08_Pair v2 v1).2.1, x.2.2.1, IntKind.i64.wrap (x.2.2.2.1 + (1 : Int)), ()))
    (some (.inl (x.2.1, ())))
noncomputable def graph_Graph_Next_l6 : LCtr := ⟨[0, 5, 12, 13], (.cons (.val (.ptr (.cons (.int .i64) (.cons (.lst t_easementref08_Pair) (.cons (.lst (.int .i32)) (.cons (.lst (.int .i32)) (.cons (.lst (.int .i32)) (.cons (.lst (.int .i32)) .nil)))))))) (.cons (.own (.int .i64)) (.cons (.val (.int .i64)) (.cons (.val (.int .i64)) .nil)))), [some 0], [5], [⟨(.exit 0), [5], (.cons (.own (.int .i64)) .nil), [some 0]⟩], [(11, .sf 0)], lim graph_Graph_Next_l6_step⟩
noncomputable def graph_Graph_Next_ls1 : List (Nat × LCtr) := (6, graph_Graph_Next_l6) :: graph_Graph_Next_ls0
theorem graph_Graph_Next_lsok1 : LsOK Try.prog Try.f122.ntmps graph_Graph_Next_code graph_Graph_Next_ls1 :=
  loop_at (L := graph_Graph_Next_l6) (fz := graph_Graph_Next_fz) graph_Graph_Next_fsok graph_Graph_Next_isok graph_Graph_Next_lsok0 (by kernel_rfl) (by kernel_rfl) (by kernel_rfl) (step := graph_Graph_Next_l6_step) rfl (fun g x => by kernel_rfl)
noncomputable def graph_Graph_Next (x : ((Option V_graph_Graph) × Int × Unit)) : Option ((List Int) × Unit) :=
  Option.bind (graph_Graph_Out_p0 (x.1, x.2.1, ())) fun y1 => out1 y1
    (fun z2 =>
      Option.bind (lim graph_Graph_Next_l6_step (x.1, z2.1, (z2.1.length : Int), (0 : Int), ())) fun y3 => out1 y3
        (fun z4 =>
          some (z4.1, ())))
noncomputable def graph_Graph_Next_c : Ctr := ⟨(.cons (.ptr (.cons (.int .i64) (.cons (.lst t_easementref08_Pair) (.cons (.lst (.int .i32)) (.cons (.lst (.int .i32)) (.cons (.lst (.int .i32)) (.cons (.lst (.int .i32)) .nil))))))) (.cons (.int .i64) .nil)), (.cons (.lst (.int .i64)) .nil), graph_Graph_Next, none⟩
theorem graph_Graph_Next_ok : CtrOK Try.prog 122 graph_Graph_Next_c :=
  fun_at (fz := graph_Graph_Next_fz) graph_Graph_Next_fsok graph_Graph_Next_isok Try.func122 (by kernel_rfl) (c := graph_Graph_Next_code) (by kernel_rfl) graph_Graph_Next_lsok1 (by kernel_rfl) (fun x => by kernel_rfl)
/-! ### (*easement/graph.Graph).Reach: function 107 -/
noncomputable def graph_Graph_Reach_code : Code := Try.f107.body.getD .skip
noncomputable def graph_Graph_Reach_fs : List (Nat × Ctr) := [(89, graph_Graph_Nodes_c), (122, graph_Graph_Next_c)]
noncomputable def graph_Graph_Reach_is : List (Nat × List PI) := []
theorem graph_Graph_Reach_fsok : FsOK Try.prog graph_Graph_Reach_fs := ⟨graph_Graph_Nodes_ok, graph_Graph_Next_ok, trivial⟩
theorem graph_Graph_Reach_isok : IsOK Try.prog graph_Graph_Reach_is := trivial
def graph_Graph_Reach_fz : List (Nat × List Nat) := []
noncomputable def graph_Graph_Reach_ls0 : List (Nat × LCtr) := []
theorem graph_Graph_Reach_lsok0 : LsOK Try.prog Try.f107.ntmps graph_Graph_Reach_code graph_Graph_Reach_ls0 := trivial
noncomputable def graph_Graph_Reach_j115_v (x : ((List Int) × (List Int) × Int × Bool × Unit)) : Option (((List Int) × (List Int) × Unit) ⊕ Empty) :=
  cond (x.2.2.2.1)
    (ck (inB x.2.2.1 (x.1.length)) <|
    ck (roomB (x.2.1 ++ [x.2.2.1]).length 10) <|
    some (.inl (x.2.1 ++ [x.2.2.1], x.1.set x.2.2.1.toNat (1 : Int), ())))
    (some (.inl (x.2.1, x.1, ())))
noncomputable def graph_Graph_Reach_j115 : LCtr := ⟨[5, 6, 9, 57], (.cons (.own (.int .i64)) (.cons (.own (.int .i64)) (.cons (.val (.int .i64)) (.cons (.val .bool) .nil)))), [], [5, 47, 48, 49], [⟨.normal, [6, 5], (.cons (.own (.int .i64)) (.cons (.own (.int .i64)) .nil)), [none, some 0]⟩], [], graph_Graph_Reach_j115_v⟩
noncomputable def graph_Graph_Reach_ls1 : List (Nat × LCtr) := (1704051, graph_Graph_Reach_j115) :: graph_Graph_Reach_ls0
theorem graph_Graph_Reach_lsok1 : LsOK Try.prog Try.f107.ntmps graph_Graph_Reach_code graph_Graph_Reach_ls1 :=
  join_at (L := graph_Graph_Reach_j115) (fz := graph_Graph_Reach_fz) graph_Graph_Reach_fsok graph_Graph_Reach_isok graph_Graph_Reach_lsok0 (by kernel_rfl) (by kernel_rfl) (fun x => by kernel_rfl)
noncomputable def graph_Graph_Reach_l20_step (g : ((List Int) × (List Int) × (List Int) × Int × Int × Unit) → Option (((List Int) × (List Int) × Unit) ⊕ Empty)) (x : ((List Int) × (List Int) × (List Int) × Int × Int × Unit)) : Option (((List Int) × (List Int) × Unit) ⊕ Empty) :=
  cond (decide (x.2.2.2.2.1 < x.2.2.2.1))
    (ck (inB x.2.2.2.2.1 (x.2.2.1.length)) <|
    let v1 := rdL (.int .i64) x.2.2.1 x.2.2.2.2.1
    ck (inB v1 (x.1.length)) <|
    Option.bind (graph_Graph_Reach_j115_v (x.1, x.2.1, v1, (x.1.getD v1.toNat (Ty.dflt (.int .i64))) == (0 : Int), ())) fun y3 => out1 y3
      (fun z4 =>
        g (z4.2.1, z4.1, x.2.2.1, x.2.2.2.1, IntKind.i64.wrap (x.2.2.2.2.1 + (1 : Int)), ())))
    (some (.inl (x.2.1, x.1, ())))
noncomputable def graph_Graph_Reach_l20 : LCtr := ⟨[5, 6, 47, 48, 49], (.cons (.own (.int .i64)) (.cons (.own (.int .i64)) (.cons (.val (.lst (.int .i64))) (.cons (.val (.int .i64)) (.cons (.val (.int .i64)) .nil))))), [some 0, none], [0, 5], [⟨(.exit 2), [6, 5], (.cons (.own (.int .i64)) (.cons (.own (.int .i64)) .nil)), [none, some 0]⟩], [], lim graph_Graph_Reach_l20_step⟩
noncomputable def graph_Graph_Reach_ls2 : List (Nat × LCtr) := (20, graph_Graph_Reach_l20) :: graph_Graph_Reach_ls1
theorem graph_Graph_Reach_lsok2 : LsOK Try.prog Try.f107.ntmps graph_Graph_Reach_code graph_Graph_Reach_ls2 :=
  loop_at (L := graph_Graph_Reach_l20) (fz := graph_Graph_Reach_fz) graph_Graph_Reach_fsok graph_Graph_Reach_isok graph_Graph_Reach_lsok1 (by kernel_rfl) (by kernel_rfl) (by kernel_rfl) (step := graph_Graph_Reach_l20_step) rfl (fun g x => by kernel_rfl)
noncomputable def graph_Graph_Reach_l12_step (g : ((Option V_graph_Graph) × (List Int) × (List Int) × Unit) → Option (((List Int) × (List Int) × Unit) ⊕ Empty)) (x : ((Option V_graph_Graph) × (List Int) × (List Int) × Unit)) : Option (((List Int) × (List Int) × Unit) ⊕ Empty) :=
  cond (decide ((x.2.2.1.length : Int) > (0 : Int)))
    (let v1 := IntKind.i64.wrap ((x.2.2.1.length : Int) - (1 : Int))
    ck (inB v1 (x.2.2.1.length)) <|
    let v2 := IntKind.i64.wrap ((x.2.2.1.length : Int) - (1 : Int))
    ck (decide (0 ≤ v2) && decide (v2 ≤ x.2.2.1.length)) <|
    Option.bind (graph_Graph_Next (x.1, x.2.2.1.getD v1.toNat (Ty.dflt (.int .i64)), ())) fun y2 =>
    Option.bind (lim graph_Graph_Reach_l20_step (x.2.1, x.2.2.1.take v2.toNat, y2.1, (y2.1.length : Int), (0 : Int), ())) fun y5 => out1 y5
      (fun z6 =>
        g (x.1, z6.2.1, z6.1, ())))
    (some (.inl (x.2.1, x.2.2.1, ())))
noncomputable def graph_Graph_Reach_l12 : LCtr := ⟨[0, 5, 6], (.cons (.val (.ptr (.cons (.int .i64) (.cons (.lst t_easementref08_Pair) (.cons (.lst (.int .i32)) (.cons (.lst (.int .i32)) (.cons (.lst (.int .i32)) (.cons (.lst (.int .i32)) .nil)))))))) (.cons (.own (.int .i64)) (.cons (.own (.int .i64)) .nil))), [some 0, none], [5], [⟨(.exit 0), [5, 6], (.cons (.own (.int .i64)) (.cons (.own (.int .i64)) .nil)), [some 0, none]⟩], [], lim graph_Graph_Reach_l12_step⟩
noncomputable def graph_Graph_Reach_ls3 : List (Nat × LCtr) := (12, graph_Graph_Reach_l12) :: graph_Graph_Reach_ls2
theorem graph_Graph_Reach_lsok3 : LsOK Try.prog Try.f107.ntmps graph_Graph_Reach_code graph_Graph_Reach_ls3 :=
  loop_at (L := graph_Graph_Reach_l12) (fz := graph_Graph_Reach_fz) graph_Graph_Reach_fsok graph_Graph_Reach_isok graph_Graph_Reach_lsok2 (by kernel_rfl) (by kernel_rfl) (by kernel_rfl) (step := graph_Graph_Reach_l12_step) rfl (fun g x => by kernel_rfl)
noncomputable def graph_Graph_Reach_j149_v (x : ((List Int) × Int × Bool × Unit)) : Option (((List Int) × Unit) ⊕ Empty) :=
  cond (x.2.2.1)
    (ck (roomB (x.1 ++ [x.2.1]).length 10) <|
    some (.inl (x.1 ++ [x.2.1], ())))
    (some (.inl (x.1, ())))
noncomputable def graph_Graph_Reach_j149 : LCtr := ⟨[10, 11, 74], (.cons (.own (.int .i64)) (.cons (.val (.int .i64)) (.cons (.val .bool) .nil))), [], [66, 67, 68], [⟨.normal, [10], (.cons (.own (.int .i64)) .nil), [none]⟩], [], graph_Graph_Reach_j149_v⟩
noncomputable def graph_Graph_Reach_ls4 : List (Nat × LCtr) := (2752661, graph_Graph_Reach_j149) :: graph_Graph_Reach_ls3
theorem graph_Graph_Reach_lsok4 : LsOK Try.prog Try.f107.ntmps graph_Graph_Reach_code graph_Graph_Reach_ls4 :=
  join_at (L := graph_Graph_Reach_j149) (fz := graph_Graph_Reach_fz) graph_Graph_Reach_fsok graph_Graph_Reach_isok graph_Graph_Reach_lsok3 (by kernel_rfl) (by kernel_rfl) (fun x => by kernel_rfl)
noncomputable def graph_Graph_Reach_l36_step (g : ((List Int) × (List Int) × Int × Int × Unit) → Option (((List Int) × (List Int) × Unit) ⊕ Empty)) (x : ((List Int) × (List Int) × Int × Int × Unit)) : Option (((List Int) × (List Int) × Unit) ⊕ Empty) :=
  cond (decide (x.2.2.2.1 < x.2.2.1))
    (ck (inB x.2.2.2.1 (x.2.1.length)) <|
    Option.bind (graph_Graph_Reach_j149_v (x.1, x.2.2.2.1, decide ((x.2.1.getD x.2.2.2.1.toNat (Ty.dflt (.int .i64))) > (0 : Int)), ())) fun y9 => out1 y9
      (fun z10 =>
        g (z10.1, x.2.1, x.2.2.1, IntKind.i64.wrap (x.2.2.2.1 + (1 : Int)), ())))
    (some (.inl (x.1, x.2.1, ())))
noncomputable def graph_Graph_Reach_l36 : LCtr := ⟨[10, 66, 67, 68], (.cons (.own (.int .i64)) (.cons (.own (.int .i64)) (.cons (.val (.int .i64)) (.cons (.val (.int .i64)) .nil)))), [none, some 1], [], [⟨(.exit 4), [10, 66], (.cons (.own (.int .i64)) (.cons (.own (.int .i64)) .nil)), [none, some 1]⟩], [], lim graph_Graph_Reach_l36_step⟩
noncomputable def graph_Graph_Reach_ls5 : List (Nat × LCtr) := (36, graph_Graph_Reach_l36) :: graph_Graph_Reach_ls4
theorem graph_Graph_Reach_lsok5 : LsOK Try.prog Try.f107.ntmps graph_Graph_Reach_code graph_Graph_Reach_ls5 :=
  loop_at (L := graph_Graph_Reach_l36) (fz := graph_Graph_Reach_fz) graph_Graph_Reach_fsok graph_Graph_Reach_isok graph_Graph_Reach_lsok4 (by kernel_rfl) (by kernel_rfl) (by kernel_rfl) (step := graph_Graph_Reach_l36_step) rfl (fun g x => by kernel_rfl)
noncomputable def graph_Graph_Reach (x : ((Option V_graph_Graph) × Int × Unit)) : Option ((List Int) × Unit) :=
  cond (!(decide (x.2.1 < (0 : Int))))
    (Option.bind (graph_Graph_Nodes (x.1, ())) fun y1 =>
    cond (decide (x.2.1 ≥ y1.1))
      (some (([] : List Int), ()))
      (ck (x.1.isSome) <|
      let v1 := (x.1.getD (Ty.dflt (.cons (.int .i64) (.cons (.lst t_easementref08_Pair) (.cons (.lst (.int .i32)) (.cons (.lst (.int .i32)) (.cons (.lst (.int .i32)) (.cons (.lst (.int .i32)) .nil)))))))).1
      ck (decide (0 ≤ v1) && decide (v1 ≤ v1) && decide (v1 * ((10 : Nat) : Int) ≤ 35184372088832)) <|
      let v2 := List.replicate v1.toNat ((0 : Int) : Int)
      ck (inB x.2.1 (v2.length)) <|
      Option.bind (lim graph_Graph_Reach_l12_step (x.1, v2.set x.2.1.toNat (1 : Int), [x.2.1], ())) fun y7 => out1 y7
        (fun z8 =>
          Option.bind (lim graph_Graph_Reach_l36_step (([] : List Int), z8.1, (z8.1.length : Int), (0 : Int), ())) fun y11 => out1 y11
            (fun z12 =>
              some (z12.1, ())))))
    (some (([] : List Int), ()))
noncomputable def graph_Graph_Reach_c : Ctr := ⟨(.cons (.ptr (.cons (.int .i64) (.cons (.lst t_easementref08_Pair) (.cons (.lst (.int .i32)) (.cons (.lst (.int .i32)) (.cons (.lst (.int .i32)) (.cons (.lst (.int .i32)) .nil))))))) (.cons (.int .i64) .nil)), (.cons (.lst (.int .i64)) .nil), graph_Graph_Reach, none⟩
theorem graph_Graph_Reach_ok : CtrOK Try.prog 107 graph_Graph_Reach_c :=
  fun_at (fz := graph_Graph_Reach_fz) graph_Graph_Reach_fsok graph_Graph_Reach_isok Try.func107 (by kernel_rfl) (c := graph_Graph_Reach_code) (by kernel_rfl) graph_Graph_Reach_lsok5 (by kernel_rfl) (fun x => by kernel_rfl)
/-! ### easement/model.reach: function 85 -/
noncomputable def model_reach_code : Code := Try.f85.body.getD .skip
noncomputable def model_reach_fs : List (Nat × Ctr) := [(106, cons_Graph_c), (89, graph_Graph_Nodes_c), (107, graph_Graph_Reach_c)]
noncomputable def model_reach_is : List (Nat × List PI) := []
theorem model_reach_fsok : FsOK Try.prog model_reach_fs := ⟨cons_Graph_ok, graph_Graph_Nodes_ok, graph_Graph_Reach_ok, trivial⟩
theorem model_reach_isok : IsOK Try.prog model_reach_is := trivial
def model_reach_fz : List (Nat × List Nat) := []
noncomputable def model_reach_ls0 : List (Nat × LCtr) := []
theorem model_reach_lsok0 : LsOK Try.prog Try.f85.ntmps model_reach_code model_reach_ls0 := trivial
noncomputable def model_reach_l12_step (g : ((Option V_graph_Graph) × (List (List Int)) × Int × Int × Unit) → Option (((List (List Int)) × Unit) ⊕ Empty)) (x : ((Option V_graph_Graph) × (List (List Int)) × Int × Int × Unit)) : Option (((List (List Int)) × Unit) ⊕ Empty) :=
  cond (decide (x.2.2.2.1 < x.2.2.1))
    (Option.bind (graph_Graph_Reach (x.1, x.2.2.2.1, ())) fun y3 =>
    ck (roomB (x.2.1 ++ [y3.1]).length 26) <|
    g (x.1, x.2.1 ++ [y3.1], x.2.2.1, IntKind.i64.wrap (x.2.2.2.1 + (1 : Int)), ()))
    (some (.inl (x.2.1, ())))
noncomputable def model_reach_l12 : LCtr := ⟨[6, 7, 19, 20], (.cons (.val (.ptr (.cons (.int .i64) (.cons (.lst t_easementref08_Pair) (.cons (.lst (.int .i32)) (.cons (.lst (.int .i32)) (.cons (.lst (.int .i32)) (.cons (.lst (.int .i32)) .nil)))))))) (.cons (.own (.lst (.int .i64))) (.cons (.val (.int .i64)) (.cons (.val (.int .i64)) .nil)))), [none], [6], [⟨(.exit 0), [7], (.cons (.own (.lst (.int .i64))) .nil), [none]⟩], [], lim model_reach_l12_step⟩
noncomputable def model_reach_ls1 : List (Nat × LCtr) := (12, model_reach_l12) :: model_reach_ls0
theorem model_reach_lsok1 : LsOK Try.prog Try.f85.ntmps model_reach_code model_reach_ls1 :=
  loop_at (L := model_reach_l12) (fz := model_reach_fz) model_reach_fsok model_reach_isok model_reach_lsok0 (by kernel_rfl) (by kernel_rfl) (by kernel_rfl) (step := model_reach_l12_step) rfl (fun g x => by kernel_rfl)
noncomputable def model_reach (x : (V_api_Body × (List V_api_Edge) × Unit)) : Option ((List (List Int)) × (Option V_graph_Graph) × Unit) :=
  Option.bind (cons_Graph ((x.1.1, x.1.2.1, x.1.2.2.1, x.1.2.2.2.1, x.1.2.2.2.2.1, x.1.2.2.2.2.2.1, x.1.2.2.2.2.2.2.1, ()), x.2.1, ())) fun y1 =>
  cond (y1.1.isNone)
    (some (([] : List (List Int)), (none : Option V_graph_Graph), ()))
    (Option.bind (graph_Graph_Nodes (y1.1, ())) fun y2 =>
    Option.bind (lim model_reach_l12_step (y1.1, ([] : List (List Int)), maxI (0 : Int) (minI x.1.1 y2.1), (0 : Int), ())) fun y4 => out1 y4
      (fun z5 =>
        some (z5.1, y1.1, ())))
noncomputable def model_reach_c : Ctr := ⟨(.cons t_api_Body (.cons (.lst t_api_Edge) .nil)), (.cons (.lst (.lst (.int .i64))) (.cons (.ptr (.cons (.int .i64) (.cons (.lst t_easementref08_Pair) (.cons (.lst (.int .i32)) (.cons (.lst (.int .i32)) (.cons (.lst (.int .i32)) (.cons (.lst (.int .i32)) .nil))))))) .nil)), model_reach, none⟩
theorem model_reach_ok : CtrOK Try.prog 85 model_reach_c :=
  fun_at (fz := model_reach_fz) model_reach_fsok model_reach_isok Try.func85 (by kernel_rfl) (c := model_reach_code) (by kernel_rfl) model_reach_lsok1 (by kernel_rfl) (fun x => by kernel_rfl)
/-! ### easement/model.Outlives: function 48 -/
noncomputable def model_Outlives_code : Code := Try.f48.body.getD .skip
noncomputable def model_Outlives_fs : List (Nat × Ctr) := [(85, model_reach_c)]
noncomputable def model_Outlives_is : List (Nat × List PI) := []
theorem model_Outlives_fsok : FsOK Try.prog model_Outlives_fs := ⟨model_reach_ok, trivial⟩
theorem model_Outlives_isok : IsOK Try.prog model_Outlives_is := trivial
def model_Outlives_fz : List (Nat × List Nat) := []
noncomputable def model_Outlives_ls0 : List (Nat × LCtr) := []
theorem model_Outlives_lsok0 : LsOK Try.prog Try.f48.ntmps model_Outlives_code model_Outlives_ls0 := trivial
noncomputable def model_Outlives_j79_v (x : ((List V_easementref08_Pair) × Int × Int × Bool × Unit)) : Option (((List V_easementref08_Pair) × Unit) ⊕ Empty) :=
  cond (x.2.2.2.1)
    (let v1 := x.1 ++ [(x.2.1, x.2.2.1, ())]
    ck (roomB v1.length 19) <|
    some (.inl (v1, ())))
    (some (.inl (x.1, ())))
noncomputable def model_Outlives_j79 : LCtr := ⟨[7, 8, 11, 39], (.cons (.own t_easementref08_Pair) (.cons (.val (.int .i64)) (.cons (.val (.int .i64)) (.cons (.val .bool) .nil)))), [], [2, 8, 25, 26, 27], [⟨.normal, [7], (.cons (.own t_easementref08_Pair) .nil), [none]⟩], [], model_Outlives_j79_v⟩
noncomputable def model_Outlives_ls1 : List (Nat × LCtr) := (1310799, model_Outlives_j79) :: model_Outlives_ls0
theorem model_Outlives_lsok1 : LsOK Try.prog Try.f48.ntmps model_Outlives_code model_Outlives_ls1 :=
  join_at (L := model_Outlives_j79) (fz := model_Outlives_fz) model_Outlives_fsok model_Outlives_isok model_Outlives_lsok0 (by kernel_rfl) (by kernel_rfl) (fun x => by kernel_rfl)
noncomputable def model_Outlives_l14_step (g : ((Int × Int × (List V_easementref08_Pair) × (List V_api_Type) × (List V_api_Slot) × (List V_api_Sig) × (List V_api_Block) × Unit) × (List V_easementref08_Pair) × Int × (List Int) × Int × Int × Unit) → Option (((List V_easementref08_Pair) × (Int × Int × (List V_easementref08_Pair) × (List V_api_Type) × (List V_api_Slot) × (List V_api_Sig) × (List V_api_Block) × Unit) × Unit) ⊕ Empty)) (x : ((Int × Int × (List V_easementref08_Pair) × (List V_api_Type) × (List V_api_Slot) × (List V_api_Sig) × (List V_api_Block) × Unit) × (List V_easementref08_Pair) × Int × (List Int) × Int × Int × Unit)) : Option (((List V_easementref08_Pair) × (Int × Int × (List V_easementref08_Pair) × (List V_api_Type) × (List V_api_Slot) × (List V_api_Sig) × (List V_api_Block) × Unit) × Unit) ⊕ Empty) :=
  cond (decide (x.2.2.2.2.2.1 < x.2.2.2.2.1))
    (ck (inB x.2.2.2.2.2.1 (x.2.2.2.1.length)) <|
    let v1 := rdL (.int .i64) x.2.2.2.1 x.2.2.2.2.2.1
    Option.bind (model_Outlives_j79_v (x.2.1, x.2.2.1, v1, cond (decide (v1 < x.1.1)) (v1 != x.2.2.1) false, ())) fun y2 => out1 y2
      (fun z3 =>
        g ((x.1.1, x.1.2.1, x.1.2.2.1, x.1.2.2.2.1, x.1.2.2.2.2.1, x.1.2.2.2.2.2.1, x.1.2.2.2.2.2.2.1, ()), z3.1, x.2.2.1, x.2.2.2.1, x.2.2.2.2.1, IntKind.i64.wrap (x.2.2.2.2.2.1 + (1 : Int)), ())))
    (some (.inl (x.2.1, (x.1.1, x.1.2.1, x.1.2.2.1, x.1.2.2.2.1, x.1.2.2.2.2.1, x.1.2.2.2.2.2.1, x.1.2.2.2.2.2.2.1, ()), ())))
noncomputable def model_Outlives_l14 : LCtr := ⟨[2, 7, 8, 25, 26, 27], (.cons (.ptr (.cons (.val (.int .i64)) (.cons (.val (.int .i64)) (.cons (.val (.lst t_easementref08_Pair)) (.cons (.val (.lst t_api_Type)) (.cons (.val (.lst t_api_Slot)) (.cons (.val (.lst t_api_Sig)) (.cons (.val (.lst t_api_Block)) .nil)))))))) (.cons (.own t_easementref08_Pair) (.cons (.val (.int .i64)) (.cons (.val (.lst (.int .i64))) (.cons (.val (.int .i64)) (.cons (.val (.int .i64)) .nil)))))), [some 0, none], [2, 18, 19, 20], [⟨(.exit 2), [7, 2], (.cons (.own t_easementref08_Pair) (.cons (.ptr (.cons (.val (.int .i64)) (.cons (.val (.int .i64)) (.cons (.val (.lst t_easementref08_Pair)) (.cons (.val (.lst t_api_Type)) (.cons (.val (.lst t_api_Slot)) (.cons (.val (.lst t_api_Sig)) (.cons (.val (.lst t_api_Block)) .nil)))))))) .nil)), [none, some 0]⟩], [], lim model_Outlives_l14_step⟩
noncomputable def model_Outlives_ls2 : List (Nat × LCtr) := (14, model_Outlives_l14) :: model_Outlives_ls1
theorem model_Outlives_lsok2 : LsOK Try.prog Try.f48.ntmps model_Outlives_code model_Outlives_ls2 :=
  loop_at (L := model_Outlives_l14) (fz := model_Outlives_fz) model_Outlives_fsok model_Outlives_isok model_Outlives_lsok1 (by kernel_rfl) (by kernel_rfl) (by kernel_rfl) (step := model_Outlives_l14_step) rfl (fun g x => by kernel_rfl)
noncomputable def model_Outlives_l8_step (g : ((Int × Int × (List V_easementref08_Pair) × (List V_api_Type) × (List V_api_Slot) × (List V_api_Sig) × (List V_api_Block) × Unit) × (List V_easementref08_Pair) × (List (List Int)) × Int × Int × Unit) → Option (((List V_easementref08_Pair) × (Int × Int × (List V_easementref08_Pair) × (List V_api_Type) × (List V_api_Slot) × (List V_api_Sig) × (List V_api_Block) × Unit) × Unit) ⊕ Empty)) (x : ((Int × Int × (List V_easementref08_Pair) × (List V_api_Type) × (List V_api_Slot) × (List V_api_Sig) × (List V_api_Block) × Unit) × (List V_easementref08_Pair) × (List (List Int)) × Int × Int × Unit)) : Option (((List V_easementref08_Pair) × (Int × Int × (List V_easementref08_Pair) × (List V_api_Type) × (List V_api_Slot) × (List V_api_Sig) × (List V_api_Block) × Unit) × Unit) ⊕ Empty) :=
  cond (decide (x.2.2.2.2.1 < x.2.2.2.1))
    (ck (inB x.2.2.2.2.1 (x.2.2.1.length)) <|
    let v1 := rdL (.lst (.int .i64)) x.2.2.1 x.2.2.2.2.1
    Option.bind (lim model_Outlives_l14_step ((x.1.1, x.1.2.1, x.1.2.2.1, x.1.2.2.2.1, x.1.2.2.2.2.1, x.1.2.2.2.2.2.1, x.1.2.2.2.2.2.2.1, ()), x.2.1, x.2.2.2.2.1, v1, (v1.length : Int), (0 : Int), ())) fun y4 => out1 y4
      (fun z5 =>
        g ((z5.2.1.1, z5.2.1.2.1, z5.2.1.2.2.1, z5.2.1.2.2.2.1, z5.2.1.2.2.2.2.1, z5.2.1.2.2.2.2.2.1, z5.2.1.2.2.2.2.2.2.1, ()), z5.1, x.2.2.1, x.2.2.2.1, IntKind.i64.wrap (x.2.2.2.2.1 + (1 : Int)), ())))
    (some (.inl (x.2.1, (x.1.1, x.1.2.1, x.1.2.2.1, x.1.2.2.2.1, x.1.2.2.2.2.1, x.1.2.2.2.2.2.1, x.1.2.2.2.2.2.2.1, ()), ())))
noncomputable def model_Outlives_l8 : LCtr := ⟨[2, 7, 18, 19, 20], (.cons (.ptr (.cons (.val (.int .i64)) (.cons (.val (.int .i64)) (.cons (.val (.lst t_easementref08_Pair)) (.cons (.val (.lst t_api_Type)) (.cons (.val (.lst t_api_Slot)) (.cons (.val (.lst t_api_Sig)) (.cons (.val (.lst t_api_Block)) .nil)))))))) (.cons (.own t_easementref08_Pair) (.cons (.val (.lst (.lst (.int .i64)))) (.cons (.val (.int .i64)) (.cons (.val (.int .i64)) .nil))))), [some 0, none], [], [⟨(.exit 0), [7, 2], (.cons (.own t_easementref08_Pair) (.cons (.ptr (.cons (.val (.int .i64)) (.cons (.val (.int .i64)) (.cons (.val (.lst t_easementref08_Pair)) (.cons (.val (.lst t_api_Type)) (.cons (.val (.lst t_api_Slot)) (.cons (.val (.lst t_api_Sig)) (.cons (.val (.lst t_api_Block)) .nil)))))))) .nil)), [none, some 0]⟩], [], lim model_Outlives_l8_step⟩
noncomputable def model_Outlives_ls3 : List (Nat × LCtr) := (8, model_Outlives_l8) :: model_Outlives_ls2
theorem model_Outlives_lsok3 : LsOK Try.prog Try.f48.ntmps model_Outlives_code model_Outlives_ls3 :=
  loop_at (L := model_Outlives_l8) (fz := model_Outlives_fz) model_Outlives_fsok model_Outlives_isok model_Outlives_lsok2 (by kernel_rfl) (by kernel_rfl) (by kernel_rfl) (step := model_Outlives_l8_step) rfl (fun g x => by kernel_rfl)
noncomputable def model_Outlives (x : (V_api_Body × (List V_api_Edge) × Unit)) : Option ((List V_easementref08_Pair) × Unit) :=
  Option.bind (model_reach ((x.1.1, x.1.2.1, x.1.2.2.1, x.1.2.2.2.1, x.1.2.2.2.2.1, x.1.2.2.2.2.2.1, x.1.2.2.2.2.2.2.1, ()), x.2.1, ())) fun y1 =>
  Option.bind (lim model_Outlives_l8_step ((x.1.1, x.1.2.1, x.1.2.2.1, x.1.2.2.2.1, x.1.2.2.2.2.1, x.1.2.2.2.2.2.1, x.1.2.2.2.2.2.2.1, ()), ([] : List V_easementref08_Pair), y1.1, (y1.1.length : Int), (0 : Int), ())) fun y6 => out1 y6
    (fun z7 =>
      some (z7.1, ()))
noncomputable def model_Outlives_c : Ctr := ⟨(.cons t_api_Body (.cons (.lst t_api_Edge) .nil)), (.cons (.lst t_easementref08_Pair) .nil), model_Outlives, none⟩
theorem model_Outlives_ok : CtrOK Try.prog 48 model_Outlives_c :=
  fun_at (fz := model_Outlives_fz) model_Outlives_fsok model_Outlives_isok Try.func48 (by kernel_rfl) (c := model_Outlives_code) (by kernel_rfl) model_Outlives_lsok3 (by kernel_rfl) (fun x => by kernel_rfl)
/-! ### easement/easementref17.Bounds: function 47 -/
noncomputable def ref17_Bounds_code : Code := Try.f47.body.getD .skip
noncomputable def ref17_Bounds_fs : List (Nat × Ctr) := []
noncomputable def ref17_Bounds_is : List (Nat × List PI) := []
theorem ref17_Bounds_fsok : FsOK Try.prog ref17_Bounds_fs := trivial
theorem ref17_Bounds_isok : IsOK Try.prog ref17_Bounds_is := trivial
def ref17_Bounds_fz : List (Nat × List Nat) := []
noncomputable def ref17_Bounds_ls0 : List (Nat × LCtr) := []
theorem ref17_Bounds_lsok0 : LsOK Try.prog Try.f47.ntmps ref17_Bounds_code ref17_Bounds_ls0 := trivial
noncomputable def ref17_Bounds_l8_step (g : ((List V_easementref08_Pair) × (List V_easementref08_Pair) × Int × Unit) → Option ((Bool × Unit) ⊕ (Unit ⊕ Empty))) (x : ((List V_easementref08_Pair) × (List V_easementref08_Pair) × Int × Unit)) : Option ((Bool × Unit) ⊕ (Unit ⊕ Empty)) :=
  cond (decide (x.2.2.1 < (x.1.length : Int)))
    (ck (inB x.2.2.1 (x.1.length)) <|
    ck (inB x.2.2.1 (x.2.1.length)) <|
    let v1 := rdL t_easementref08_Pair x.1 x.2.2.1
    let v2 := rdL t_easementref08_Pair x.2.1 x.2.2.1
    cond (!((v1.1 == v2.1) && ((v1.2.1 == v2.2.1) && true)))
      (some (.inl (false, ())))
      (g (x.1, x.2.1, IntKind.i64.wrap (x.2.2.1 + (1 : Int)), ())))
    (some (.inr (.inl ())))
noncomputable def ref17_Bounds_l8 : LCtr := ⟨[0, 1, 5], (.cons (.val (.lst t_easementref08_Pair)) (.cons (.val (.lst t_easementref08_Pair)) (.cons (.val (.int .i64)) .nil))), [], [], [⟨.ret, [4], (.cons (.val .bool) .nil), []⟩, ⟨(.exit 0), [], .nil, []⟩], [], lim ref17_Bounds_l8_step⟩
noncomputable def ref17_Bounds_ls1 : List (Nat × LCtr) := (8, ref17_Bounds_l8) :: ref17_Bounds_ls0
theorem ref17_Bounds_lsok1 : LsOK Try.prog Try.f47.ntmps ref17_Bounds_code ref17_Bounds_ls1 :=
  loop_at (L := ref17_Bounds_l8) (fz := ref17_Bounds_fz) ref17_Bounds_fsok ref17_Bounds_isok ref17_Bounds_lsok0 (by kernel_rfl) (by kernel_rfl) (by kernel_rfl) (step := ref17_Bounds_l8_step) rfl (fun g x => by kernel_rfl)
noncomputable def ref17_Bounds (x : ((List V_easementref08_Pair) × (List V_easementref08_Pair) × Unit)) : Option (Bool × Unit) :=
  cond ((x.1.length : Int) != (x.2.1.length : Int))
    (some (false, ()))
    (Option.bind (lim ref17_Bounds_l8_step (x.1, x.2.1, (0 : Int), ())) fun y1 => out2 y1
      (fun z2 =>
        some (z2.1, ()))
      (fun z3 =>
        some (true, ())))
noncomputable def ref17_Bounds_c : Ctr := ⟨(.cons (.lst t_easementref08_Pair) (.cons (.lst t_easementref08_Pair) .nil)), (.cons .bool .nil), ref17_Bounds, none⟩
theorem ref17_Bounds_ok : CtrOK Try.prog 47 ref17_Bounds_c :=
  fun_at (fz := ref17_Bounds_fz) ref17_Bounds_fsok ref17_Bounds_isok Try.func47 (by kernel_rfl) (c := ref17_Bounds_code) (by kernel_rfl) ref17_Bounds_lsok1 (by kernel_rfl) (fun x => by kernel_rfl)
/-! ### (*easement/graph.Graph).In: function 91 -/
noncomputable def graph_Graph_In_code : Code := Try.f91.body.getD .skip
noncomputable def graph_Graph_In_fs : List (Nat × Ctr) := [(89, graph_Graph_Nodes_c), (108, graph_ints_c)]
noncomputable def graph_Graph_In_is : List (Nat × List PI) := []
theorem graph_Graph_In_fsok : FsOK Try.prog graph_Graph_In_fs := ⟨graph_Graph_Nodes_ok, graph_ints_ok, trivial⟩
theorem graph_Graph_In_isok : IsOK Try.prog graph_Graph_In_is := trivial
def graph_Graph_In_fz : List (Nat × List Nat) := []
noncomputable def graph_Graph_In_ls0 : List (Nat × LCtr) := []
theorem graph_Graph_In_lsok0 : LsOK Try.prog Try.f91.ntmps graph_Graph_In_code graph_Graph_In_ls0 := trivial
noncomputable def graph_Graph_In (x : ((Option V_graph_Graph) × Int × Unit)) : Option ((List Int) × Unit) :=
  cond (!(decide (x.2.1 < (0 : Int))))
    (Option.bind (graph_Graph_Nodes (x.1, ())) fun y1 =>
    cond (decide (x.2.1 ≥ y1.1))
      (some (([] : List Int), ()))
      (ck (x.1.isSome) <|
      ck (x.1.isSome) <|
      let v1 := (x.1.getD (Ty.dflt (.cons (.int .i64) (.cons (.lst t_easementref08_Pair) (.cons (.lst (.int .i32)) (.cons (.lst (.int .i32)) (.cons (.lst (.int .i32)) (.cons (.lst (.int .i32)) .nil)))))))).2.2.2.2.2.1
      ck (inB x.2.1 (v1.length)) <|
      ck (x.1.isSome) <|
      let v2 := IntKind.i64.wrap (x.2.1 + (1 : Int))
      let v3 := (x.1.getD (Ty.dflt (.cons (.int .i64) (.cons (.lst t_easementref08_Pair) (.cons (.lst (.int .i32)) (.cons (.lst (.int .i32)) (.cons (.lst (.int .i32)) (.cons (.lst (.int .i32)) .nil)))))))).2.2.2.2.2.1
      ck (inB v2 (v3.length)) <|
      let v4 := (x.1.getD (Ty.dflt (.cons (.int .i64) (.cons (.lst t_easementref08_Pair) (.cons (.lst (.int .i32)) (.cons (.lst (.int .i32)) (.cons (.lst (.int .i32)) (.cons (.lst (.int .i32)) .nil)))))))).2.2.2.1
      ck (decide (0 ≤ (rdL (.int .i32) v1 x.2.1)) && decide ((rdL (.int .i32) v1 x.2.1) ≤ (rdL (.int .i32) v3 v2)) && decide ((rdL (.int .i32) v3 v2) ≤ v4.length)) <|
      Option.bind (graph_ints ((v4.take (rdL (.int .i32) v3 v2).toNat).drop (rdL (.int .i32) v1 x.2.1).toNat, ())) fun y2 =>
      some (y2.1, ())))
    (some (([] : List Int), ()))
noncomputable def graph_Graph_In_c : Ctr := ⟨(.cons (.ptr (.cons (.int .i64) (.cons (.lst t_easementref08_Pair) (.cons (.lst (.int .i32)) (.cons (.lst (.int .i32)) (.cons (.lst (.int .i32)) (.cons (.lst (.int .i32)) .nil))))))) (.cons (.int .i64) .nil)), (.cons (.lst (.int .i64)) .nil), graph_Graph_In, none⟩
theorem graph_Graph_In_ok : CtrOK Try.prog 91 graph_Graph_In_c :=
  fun_at (fz := graph_Graph_In_fz) graph_Graph_In_fsok graph_Graph_In_isok Try.func91 (by kernel_rfl) (c := graph_Graph_In_code) (by kernel_rfl) graph_Graph_In_lsok0 (by kernel_rfl) (fun x => by kernel_rfl)
/-! ### easement/model.Loose: function 51 -/
noncomputable def model_Loose_code : Code := Try.f51.body.getD .skip
noncomputable def model_Loose_fs : List (Nat × Ctr) := [(85, model_reach_c), (89, graph_Graph_Nodes_c), (90, graph_Graph_Out_c), (91, graph_Graph_In_c)]
noncomputable def model_Loose_is : List (Nat × List PI) := []
theorem model_Loose_fsok : FsOK Try.prog model_Loose_fs := ⟨model_reach_ok, graph_Graph_Nodes_ok, graph_Graph_Out_ok, graph_Graph_In_ok, trivial⟩
theorem model_Loose_isok : IsOK Try.prog model_Loose_is := trivial
def model_Loose_fz : List (Nat × List Nat) := []
noncomputable def model_Loose_ls0 : List (Nat × LCtr) := []
theorem model_Loose_lsok0 : LsOK Try.prog Try.f51.ntmps model_Loose_code model_Loose_ls0 := trivial
noncomputable def model_Loose_j63_v (x : ((List Int) × Int × Bool × Unit)) : Option (((List Int) × Unit) ⊕ Empty) :=
  cond (x.2.2.1)
    (ck (roomB (x.1 ++ [x.2.1]).length 10) <|
    some (.inl (x.1 ++ [x.2.1], ())))
    (some (.inl (x.1, ())))
noncomputable def model_Loose_j63 : LCtr := ⟨[7, 8, 31], (.cons (.own (.int .i64)) (.cons (.val (.int .i64)) (.cons (.val .bool) .nil))), [], [6, 16, 17], [⟨.normal, [7], (.cons (.own (.int .i64)) .nil), [none]⟩], [], model_Loose_j63_v⟩
noncomputable def model_Loose_ls1 : List (Nat × LCtr) := (917567, model_Loose_j63) :: model_Loose_ls0
theorem model_Loose_lsok1 : LsOK Try.prog Try.f51.ntmps model_Loose_code model_Loose_ls1 :=
  join_at (L := model_Loose_j63) (fz := model_Loose_fz) model_Loose_fsok model_Loose_isok model_Loose_lsok0 (by kernel_rfl) (by kernel_rfl) (fun x => by kernel_rfl)
noncomputable def model_Loose_l8_step (g : ((Option V_graph_Graph) × (List Int) × Int × Int × Unit) → Option (((List Int) × Unit) ⊕ Empty)) (x : ((Option V_graph_Graph) × (List Int) × Int × Int × Unit)) : Option (((List Int) × Unit) ⊕ Empty) :=
  cond (decide (x.2.2.2.1 < x.2.2.1))
    (Option.bind (graph_Graph_Out (x.1, x.2.2.2.1, ())) fun y3 =>
    cond ((y3.1.length : Int) == (0 : Int))
      (Option.bind (graph_Graph_In (x.1, x.2.2.2.1, ())) fun y4 =>
      Option.bind (model_Loose_j63_v (x.2.1, x.2.2.2.1, (y4.1.length : Int) == (0 : Int), ())) fun y5 => out1 y5
        (fun z6 =>
          g (x.1, z6.1, x.2.2.1, IntKind.i64.wrap (x.2.2.2.1 + (1 : Int)), ())))
      (Option.bind (model_Loose_j63_v (x.2.1, x.2.2.2.1, false, ())) fun y7 => out1 y7
        (fun z8 =>
          g (x.1, z8.1, x.2.2.1, IntKind.i64.wrap (x.2.2.2.1 + (1 : Int)), ()))))
    (some (.inl (x.2.1, ())))
noncomputable def model_Loose_l8 : LCtr := ⟨[6, 7, 16, 17], (.cons (.val (.ptr (.cons (.int .i64) (.cons (.lst t_easementref08_Pair) (.cons (.lst (.int .i32)) (.cons (.lst (.int .i32)) (.cons (.lst (.int .i32)) (.cons (.lst (.int .i32)) .nil)))))))) (.cons (.own (.int .i64)) (.cons (.val (.int .i64)) (.cons (.val (.int .i64)) .nil)))), [none], [], [⟨(.exit 0), [7], (.cons (.own (.int .i64)) .nil), [none]⟩], [], lim model_Loose_l8_step⟩
noncomputable def model_Loose_ls2 : List (Nat × LCtr) := (8, model_Loose_l8) :: model_Loose_ls1
theorem model_Loose_lsok2 : LsOK Try.prog Try.f51.ntmps model_Loose_code model_Loose_ls2 :=
  loop_at (L := model_Loose_l8) (fz := model_Loose_fz) model_Loose_fsok model_Loose_isok model_Loose_lsok1 (by kernel_rfl) (by kernel_rfl) (by kernel_rfl) (step := model_Loose_l8_step) rfl (fun g x => by kernel_rfl)
noncomputable def model_Loose (x : (V_api_Body × (List V_api_Edge) × Unit)) : Option ((List Int) × Unit) :=
  Option.bind (model_reach ((x.1.1, x.1.2.1, x.1.2.2.1, x.1.2.2.2.1, x.1.2.2.2.2.1, x.1.2.2.2.2.2.1, x.1.2.2.2.2.2.2.1, ()), x.2.1, ())) fun y1 =>
  Option.bind (graph_Graph_Nodes (y1.2.1, ())) fun y2 =>
  Option.bind (lim model_Loose_l8_step (y1.2.1, ([] : List Int), y2.1, (0 : Int), ())) fun y9 => out1 y9
    (fun z10 =>
      some (z10.1, ()))
noncomputable def model_Loose_c : Ctr := ⟨(.cons t_api_Body (.cons (.lst t_api_Edge) .nil)), (.cons (.lst (.int .i64)) .nil), model_Loose, none⟩
theorem model_Loose_ok : CtrOK Try.prog 51 model_Loose_c :=
  fun_at (fz := model_Loose_fz) model_Loose_fsok model_Loose_isok Try.func51 (by kernel_rfl) (c := model_Loose_code) (by kernel_rfl) model_Loose_lsok2 (by kernel_rfl) (fun x => by kernel_rfl)
/-! ### easement/easementref01.Same: function 50 -/
noncomputable def ref01_Same_code : Code := Try.f50.body.getD .skip
noncomputable def ref01_Same_fs : List (Nat × Ctr) := []
noncomputable def ref01_Same_is : List (Nat × List PI) := []
theorem ref01_Same_fsok : FsOK Try.prog ref01_Same_fs := trivial
theorem ref01_Same_isok : IsOK Try.prog ref01_Same_is := trivial
def ref01_Same_fz : List (Nat × List Nat) := []
noncomputable def ref01_Same_ls0 : List (Nat × LCtr) := []
theorem ref01_Same_lsok0 : LsOK Try.prog Try.f50.ntmps ref01_Same_code ref01_Same_ls0 := trivial
noncomputable def ref01_Same_l8_step (g : ((List Int) × (List Int) × Int × Unit) → Option ((Bool × Unit) ⊕ (Unit ⊕ Empty))) (x : ((List Int) × (List Int) × Int × Unit)) : Option ((Bool × Unit) ⊕ (Unit ⊕ Empty)) :=
  cond (decide (x.2.2.1 < (x.1.length : Int)))
    (ck (inB x.2.2.1 (x.1.length)) <|
    ck (inB x.2.2.1 (x.2.1.length)) <|
    cond ((rdL (.int .i64) x.1 x.2.2.1) != (rdL (.int .i64) x.2.1 x.2.2.1))
      (some (.inl (false, ())))
      (g (x.1, x.2.1, IntKind.i64.wrap (x.2.2.1 + (1 : Int)), ())))
    (some (.inr (.inl ())))
noncomputable def ref01_Same_l8 : LCtr := ⟨[0, 1, 5], (.cons (.val (.lst (.int .i64))) (.cons (.val (.lst (.int .i64))) (.cons (.val (.int .i64)) .nil))), [], [], [⟨.ret, [4], (.cons (.val .bool) .nil), []⟩, ⟨(.exit 0), [], .nil, []⟩], [], lim ref01_Same_l8_step⟩
noncomputable def ref01_Same_ls1 : List (Nat × LCtr) := (8, ref01_Same_l8) :: ref01_Same_ls0
theorem ref01_Same_lsok1 : LsOK Try.prog Try.f50.ntmps ref01_Same_code ref01_Same_ls1 :=
  loop_at (L := ref01_Same_l8) (fz := ref01_Same_fz) ref01_Same_fsok ref01_Same_isok ref01_Same_lsok0 (by kernel_rfl) (by kernel_rfl) (by kernel_rfl) (step := ref01_Same_l8_step) rfl (fun g x => by kernel_rfl)
noncomputable def ref01_Same (x : ((List Int) × (List Int) × Unit)) : Option (Bool × Unit) :=
  cond ((x.1.length : Int) != (x.2.1.length : Int))
    (some (false, ()))
    (Option.bind (lim ref01_Same_l8_step (x.1, x.2.1, (0 : Int), ())) fun y1 => out2 y1
      (fun z2 =>
        some (z2.1, ()))
      (fun z3 =>
        some (true, ())))
noncomputable def ref01_Same_c : Ctr := ⟨(.cons (.lst (.int .i64)) (.cons (.lst (.int .i64)) .nil)), (.cons .bool .nil), ref01_Same, none⟩
theorem ref01_Same_ok : CtrOK Try.prog 50 ref01_Same_c :=
  fun_at (fz := ref01_Same_fz) ref01_Same_fsok ref01_Same_isok Try.func50 (by kernel_rfl) (c := ref01_Same_code) (by kernel_rfl) ref01_Same_lsok1 (by kernel_rfl) (fun x => by kernel_rfl)
/-! ### easement/easementlaw30.awake: function 46 -/
noncomputable def law30_awake_code : Code := Try.f46.body.getD .skip
noncomputable def law30_awake_fs : List (Nat × Ctr) := [(48, model_Outlives_c), (47, ref17_Bounds_c), (51, model_Loose_c), (50, ref01_Same_c)]
noncomputable def law30_awake_is : List (Nat × List PI) := []
theorem law30_awake_fsok : FsOK Try.prog law30_awake_fs := ⟨model_Outlives_ok, ref17_Bounds_ok, model_Loose_ok, ref01_Same_ok, trivial⟩
theorem law30_awake_isok : IsOK Try.prog law30_awake_is := trivial
def law30_awake_fz : List (Nat × List Nat) := []
noncomputable def law30_awake_ls0 : List (Nat × LCtr) := []
theorem law30_awake_lsok0 : LsOK Try.prog Try.f46.ntmps law30_awake_code law30_awake_ls0 := trivial
noncomputable def law30_awake (x : Unit) : Option (Bool × Unit) :=
  Option.bind (model_Outlives (((2 : Int), (3 : Int), ([] : List V_easementref08_Pair), ([] : List V_api_Type), ([] : List V_api_Slot), ([] : List V_api_Sig), ([] : List V_api_Block), ()), [((0 : Int), (2 : Int), (0 : Int), (0 : Int), (0 : Int), (0 : Int), false, ()), ((2 : Int), (1 : Int), (0 : Int), (0 : Int), (0 : Int), (0 : Int), false, ())], ())) fun y1 =>
  Option.bind (ref17_Bounds (y1.1, [((0 : Int), (1 : Int), ())], ())) fun y2 =>
  cond (y2.1)
    (Option.bind (model_Loose (((0 : Int), (2 : Int), ([] : List V_easementref08_Pair), ([] : List V_api_Type), ([] : List V_api_Slot), ([] : List V_api_Sig), ([] : List V_api_Block), ()), [((1 : Int), (1 : Int), (0 : Int), (0 : Int), (0 : Int), (0 : Int), false, ())], ())) fun y3 =>
    Option.bind (ref01_Same (y3.1, [(0 : Int)], ())) fun y4 =>
    some (y4.1, ()))
    (some (false, ()))
noncomputable def law30_awake_c : Ctr := ⟨.nil, (.cons .bool .nil), law30_awake, none⟩
theorem law30_awake_ok : CtrOK Try.prog 46 law30_awake_c :=
  fun_at (fz := law30_awake_fz) law30_awake_fsok law30_awake_isok Try.func46 (by kernel_rfl) (c := law30_awake_code) (by kernel_rfl) law30_awake_lsok0 (by kernel_rfl) (fun x => by kernel_rfl)
/-! ### easement/easementref27.Arcs: function 86 -/
noncomputable def ref27_Arcs_code : Code := Try.f86.body.getD .skip
noncomputable def ref27_Arcs_fs : List (Nat × Ctr) := []
noncomputable def ref27_Arcs_is : List (Nat × List PI) := []
theorem ref27_Arcs_fsok : FsOK Try.prog ref27_Arcs_fs := trivial
theorem ref27_Arcs_isok : IsOK Try.prog ref27_Arcs_is := trivial
def ref27_Arcs_fz : List (Nat × List Nat) := []
noncomputable def ref27_Arcs_ls0 : List (Nat × LCtr) := []
theorem ref27_Arcs_lsok0 : LsOK Try.prog Try.f86.ntmps ref27_Arcs_code ref27_Arcs_ls0 := trivial
noncomputable def ref27_Arcs_l6_step (g : ((List V_api_Edge) × (List V_easementref08_Pair) × Int × Unit) → Option (((List V_easementref08_Pair) × Unit) ⊕ Empty)) (x : ((List V_api_Edge) × (List V_easementref08_Pair) × Int × Unit)) : Option (((List V_easementref08_Pair) × Unit) ⊕ Empty) :=
  cond (decide (x.2.2.1 < (x.1.length : Int)))
    (ck (inB x.2.2.1 (x.1.length)) <|
    ck (inB x.2.2.1 (x.1.length)) <|
    let v1 := x.2.1 ++ [((rdL t_api_Edge x.1 x.2.2.1).1, (rdL t_api_Edge x.1 x.2.2.1).2.1, ())]
    ck (roomB v1.length 19) <|
    g (x.1, v1, IntKind.i64.wrap (x.2.2.1 + (1 : Int)), ()))
    (some (.inl (x.2.1, ())))
noncomputable def ref27_Arcs_l6 : LCtr := ⟨[0, 3, 4], (.cons (.val (.lst t_api_Edge)) (.cons (.own t_easementref08_Pair) (.cons (.val (.int .i64)) .nil))), [none], [], [⟨(.exit 0), [3], (.cons (.own t_easementref08_Pair) .nil), [none]⟩], [], lim ref27_Arcs_l6_step⟩
noncomputable def ref27_Arcs_ls1 : List (Nat × LCtr) := (6, ref27_Arcs_l6) :: ref27_Arcs_ls0
theorem ref27_Arcs_lsok1 : LsOK Try.prog Try.f86.ntmps ref27_Arcs_code ref27_Arcs_ls1 :=
  loop_at (L := ref27_Arcs_l6) (fz := ref27_Arcs_fz) ref27_Arcs_fsok ref27_Arcs_isok ref27_Arcs_lsok0 (by kernel_rfl) (by kernel_rfl) (by kernel_rfl) (step := ref27_Arcs_l6_step) rfl (fun g x => by kernel_rfl)
noncomputable def ref27_Arcs (x : ((List V_api_Edge) × Unit)) : Option ((List V_easementref08_Pair) × Unit) :=
  Option.bind (lim ref27_Arcs_l6_step (x.1, ([] : List V_easementref08_Pair), (0 : Int), ())) fun y1 => out1 y1
    (fun z2 =>
      some (z2.1, ()))
noncomputable def ref27_Arcs_c : Ctr := ⟨(.cons (.lst t_api_Edge) .nil), (.cons (.lst t_easementref08_Pair) .nil), ref27_Arcs, none⟩
theorem ref27_Arcs_ok : CtrOK Try.prog 86 ref27_Arcs_c :=
  fun_at (fz := ref27_Arcs_fz) ref27_Arcs_fsok ref27_Arcs_isok Try.func86 (by kernel_rfl) (c := ref27_Arcs_code) (by kernel_rfl) ref27_Arcs_lsok1 (by kernel_rfl) (fun x => by kernel_rfl)
/-! ### easement/easementref10.Check: function 87 -/
noncomputable def ref10_Check_code : Code := Try.f87.body.getD .skip
noncomputable def ref10_Check_fs : List (Nat × Ctr) := []
noncomputable def ref10_Check_is : List (Nat × List PI) := []
theorem ref10_Check_fsok : FsOK Try.prog ref10_Check_fs := trivial
theorem ref10_Check_isok : IsOK Try.prog ref10_Check_is := trivial
def ref10_Check_fz : List (Nat × List Nat) := []
noncomputable def ref10_Check_ls0 : List (Nat × LCtr) := []
theorem ref10_Check_lsok0 : LsOK Try.prog Try.f87.ntmps ref10_Check_code ref10_Check_ls0 := trivial
noncomputable def ref10_Check_l12_step (g : (Int × (List V_easementref08_Pair) × Int × Unit) → Option ((Int × Unit) ⊕ (Unit ⊕ Empty))) (x : (Int × (List V_easementref08_Pair) × Int × Unit)) : Option ((Int × Unit) ⊕ (Unit ⊕ Empty)) :=
  cond (decide (x.2.2.1 < (x.2.1.length : Int)))
    (ck (inB x.2.2.1 (x.2.1.length)) <|
    let v1 := decide ((rdL t_easementref08_Pair x.2.1 x.2.2.1).1 < (0 : Int))
    ck ((inB x.2.2.1 (x.2.1.length)) || !(!v1)) <|
    let v2 := cond v1 true (decide ((rdL t_easementref08_Pair x.2.1 x.2.2.1).1 ≥ x.1))
    ck ((inB x.2.2.1 (x.2.1.length)) || !(!v2)) <|
    let v3 := cond v2 true (decide ((rdL t_easementref08_Pair x.2.1 x.2.2.1).2.1 < (0 : Int)))
    ck ((inB x.2.2.1 (x.2.1.length)) || !(!v3)) <|
    cond (cond v3 true (decide ((rdL t_easementref08_Pair x.2.1 x.2.2.1).2.1 ≥ x.1)))
      (some (.inl ((7 : Int), ())))
      (g (x.1, x.2.1, IntKind.i64.wrap (x.2.2.1 + (1 : Int)), ())))
    (some (.inr (.inl ())))
noncomputable def ref10_Check_l12 : LCtr := ⟨[0, 1, 5], (.cons (.val (.int .i64)) (.cons (.val (.lst t_easementref08_Pair)) (.cons (.val (.int .i64)) .nil))), [], [], [⟨.ret, [4], (.cons (.val (.int .i64)) .nil), []⟩, ⟨(.exit 0), [], .nil, []⟩], [], lim ref10_Check_l12_step⟩
noncomputable def ref10_Check_ls1 : List (Nat × LCtr) := (12, ref10_Check_l12) :: ref10_Check_ls0
theorem ref10_Check_lsok1 : LsOK Try.prog Try.f87.ntmps ref10_Check_code ref10_Check_ls1 :=
  loop_at (L := ref10_Check_l12) (fz := ref10_Check_fz) ref10_Check_fsok ref10_Check_isok ref10_Check_lsok0 (by kernel_rfl) (by kernel_rfl) (by kernel_rfl) (step := ref10_Check_l12_step) rfl (fun g x => by kernel_rfl)
noncomputable def ref10_Check (x : (Int × (List V_easementref08_Pair) × Unit)) : Option (Int × Unit) :=
  cond (decide (x.1 < (0 : Int)))
    (some ((2 : Int), ()))
    (cond (cond (decide (x.1 > (1048576 : Int))) true (decide ((x.2.1.length : Int) > (67108864 : Int))))
      (some ((5 : Int), ()))
      (Option.bind (lim ref10_Check_l12_step (x.1, x.2.1, (0 : Int), ())) fun y1 => out2 y1
        (fun z2 =>
          some (z2.1, ()))
        (fun z3 =>
          some ((0 : Int), ()))))
noncomputable def ref10_Check_c : Ctr := ⟨(.cons (.int .i64) (.cons (.lst t_easementref08_Pair) .nil)), (.cons (.int .i64) .nil), ref10_Check, none⟩
theorem ref10_Check_ok : CtrOK Try.prog 87 ref10_Check_c :=
  fun_at (fz := ref10_Check_fz) ref10_Check_fsok ref10_Check_isok Try.func87 (by kernel_rfl) (c := ref10_Check_code) (by kernel_rfl) ref10_Check_lsok1 (by kernel_rfl) (fun x => by kernel_rfl)
/-! ### easement/easementref10.Reach: function 88 -/
noncomputable def ref10_Reach_code : Code := Try.f88.body.getD .skip
noncomputable def ref10_Reach_fs : List (Nat × Ctr) := []
noncomputable def ref10_Reach_is : List (Nat × List PI) := []
theorem ref10_Reach_fsok : FsOK Try.prog ref10_Reach_fs := trivial
theorem ref10_Reach_isok : IsOK Try.prog ref10_Reach_is := trivial
def ref10_Reach_fz : List (Nat × List Nat) := []
noncomputable def ref10_Reach_ls0 : List (Nat × LCtr) := []
theorem ref10_Reach_lsok0 : LsOK Try.prog Try.f88.ntmps ref10_Reach_code ref10_Reach_ls0 := trivial
noncomputable def ref10_Reach_j83_v (x : ((List V_easementref08_Pair) × (List Int) × Bool × Int × Bool × Unit)) : Option ((Bool × (List Int) × Unit) ⊕ Empty) :=
  cond (x.2.2.2.2.1)
    (ck (inB x.2.2.2.1 (x.1.length)) <|
    let v1 := (rdL t_easementref08_Pair x.1 x.2.2.2.1).2.1
    ck (inB v1 (x.2.1.length)) <|
    some (.inl (true, x.2.1.set v1.toNat (1 : Int), ())))
    (some (.inl (x.2.2.1, x.2.1, ())))
noncomputable def ref10_Reach_j83 : LCtr := ⟨[1, 7, 8, 9, 41], (.cons (.val (.lst t_easementref08_Pair)) (.cons (.own (.int .i64)) (.cons (.val .bool) (.cons (.val (.int .i64)) (.cons (.val .bool) .nil))))), [], [1, 7, 9], [⟨.normal, [8, 7], (.cons (.val .bool) (.cons (.own (.int .i64)) .nil)), [some 0]⟩], [], ref10_Reach_j83_v⟩
noncomputable def ref10_Reach_ls1 : List (Nat × LCtr) := (1310803, ref10_Reach_j83) :: ref10_Reach_ls0
theorem ref10_Reach_lsok1 : LsOK Try.prog Try.f88.ntmps ref10_Reach_code ref10_Reach_ls1 :=
  join_at (L := ref10_Reach_j83) (fz := ref10_Reach_fz) ref10_Reach_fsok ref10_Reach_isok ref10_Reach_lsok0 (by kernel_rfl) (by kernel_rfl) (fun x => by kernel_rfl)
noncomputable def ref10_Reach_l14_step (g : ((List V_easementref08_Pair) × (List Int) × Bool × Int × Unit) → Option ((Bool × (List Int) × Unit) ⊕ Empty)) (x : ((List V_easementref08_Pair) × (List Int) × Bool × Int × Unit)) : Option ((Bool × (List Int) × Unit) ⊕ Empty) :=
  cond (decide (x.2.2.2.1 < (x.1.length : Int)))
    (ck (inB x.2.2.2.1 (x.1.length)) <|
    let v1 := (rdL t_easementref08_Pair x.1 x.2.2.2.1).1
    ck (inB v1 (x.2.1.length)) <|
    let v2 := (x.2.1.getD v1.toNat (Ty.dflt (.int .i64))) == (1 : Int)
    ck ((inB x.2.2.2.1 (x.1.length)) || !v2) <|
    let v3 := (rdL t_easementref08_Pair x.1 x.2.2.2.1).2.1
    ck ((inB v3 (x.2.1.length)) || !v2) <|
    Option.bind (ref10_Reach_j83_v (x.1, x.2.1, x.2.2.1, x.2.2.2.1, cond v2 ((x.2.1.getD v3.toNat (Ty.dflt (.int .i64))) == (0 : Int)) false, ())) fun y1 => out1 y1
      (fun z2 =>
        g (x.1, z2.2.1, z2.1, IntKind.i64.wrap (x.2.2.2.1 + (1 : Int)), ())))
    (some (.inl (x.2.2.1, x.2.1, ())))
noncomputable def ref10_Reach_l14 : LCtr := ⟨[1, 7, 8, 9], (.cons (.val (.lst t_easementref08_Pair)) (.cons (.own (.int .i64)) (.cons (.val .bool) (.cons (.val (.int .i64)) .nil)))), [some 0], [1, 7], [⟨(.exit 2), [8, 7], (.cons (.val .bool) (.cons (.own (.int .i64)) .nil)), [some 0]⟩], [], lim ref10_Reach_l14_step⟩
noncomputable def ref10_Reach_ls2 : List (Nat × LCtr) := (14, ref10_Reach_l14) :: ref10_Reach_ls1
theorem ref10_Reach_lsok2 : LsOK Try.prog Try.f88.ntmps ref10_Reach_code ref10_Reach_ls2 :=
  loop_at (L := ref10_Reach_l14) (fz := ref10_Reach_fz) ref10_Reach_fsok ref10_Reach_isok ref10_Reach_lsok1 (by kernel_rfl) (by kernel_rfl) (by kernel_rfl) (step := ref10_Reach_l14_step) rfl (fun g x => by kernel_rfl)
noncomputable def ref10_Reach_l8_step (g : ((List V_easementref08_Pair) × (List Int) × Bool × Unit) → Option (((List Int) × Unit) ⊕ Empty)) (x : ((List V_easementref08_Pair) × (List Int) × Bool × Unit)) : Option (((List Int) × Unit) ⊕ Empty) :=
  cond (x.2.2.1)
    (Option.bind (lim ref10_Reach_l14_step (x.1, x.2.1, false, (0 : Int), ())) fun y3 => out1 y3
      (fun z4 =>
        g (x.1, z4.2.1, z4.1, ())))
    (some (.inl (x.2.1, ())))
noncomputable def ref10_Reach_l8 : LCtr := ⟨[1, 7, 8], (.cons (.val (.lst t_easementref08_Pair)) (.cons (.own (.int .i64)) (.cons (.val .bool) .nil))), [some 0], [7], [⟨(.exit 0), [7], (.cons (.own (.int .i64)) .nil), [some 0]⟩], [], lim ref10_Reach_l8_step⟩
noncomputable def ref10_Reach_ls3 : List (Nat × LCtr) := (8, ref10_Reach_l8) :: ref10_Reach_ls2
theorem ref10_Reach_lsok3 : LsOK Try.prog Try.f88.ntmps ref10_Reach_code ref10_Reach_ls3 :=
  loop_at (L := ref10_Reach_l8) (fz := ref10_Reach_fz) ref10_Reach_fsok ref10_Reach_isok ref10_Reach_lsok2 (by kernel_rfl) (by kernel_rfl) (by kernel_rfl) (step := ref10_Reach_l8_step) rfl (fun g x => by kernel_rfl)
noncomputable def ref10_Reach (x : (Int × (List V_easementref08_Pair) × Int × Unit)) : Option ((List Int) × Unit) :=
  ck (decide (0 ≤ x.1) && decide (x.1 ≤ x.1) && decide (x.1 * ((10 : Nat) : Int) ≤ 35184372088832)) <|
  let v1 := List.replicate x.1.toNat ((0 : Int) : Int)
  ck (inB x.2.2.1 (v1.length)) <|
  Option.bind (lim ref10_Reach_l8_step (x.2.1, v1.set x.2.2.1.toNat (1 : Int), true, ())) fun y5 => out1 y5
    (fun z6 =>
      some (z6.1, ()))
noncomputable def ref10_Reach_c : Ctr := ⟨(.cons (.int .i64) (.cons (.lst t_easementref08_Pair) (.cons (.int .i64) .nil))), (.cons (.lst (.int .i64)) .nil), ref10_Reach, none⟩
theorem ref10_Reach_ok : CtrOK Try.prog 88 ref10_Reach_c :=
  fun_at (fz := ref10_Reach_fz) ref10_Reach_fsok ref10_Reach_isok Try.func88 (by kernel_rfl) (c := ref10_Reach_code) (by kernel_rfl) ref10_Reach_lsok3 (by kernel_rfl) (fun x => by kernel_rfl)
/-! ### easement/easementref30.Outlives: function 49 -/
noncomputable def ref30_Outlives_code : Code := Try.f49.body.getD .skip
noncomputable def ref30_Outlives_fs : List (Nat × Ctr) := [(86, ref27_Arcs_c), (87, ref10_Check_c), (88, ref10_Reach_c)]
noncomputable def ref30_Outlives_is : List (Nat × List PI) := []
theorem ref30_Outlives_fsok : FsOK Try.prog ref30_Outlives_fs := ⟨ref27_Arcs_ok, ref10_Check_ok, ref10_Reach_ok, trivial⟩
theorem ref30_Outlives_isok : IsOK Try.prog ref30_Outlives_is := trivial
def ref30_Outlives_fz : List (Nat × List Nat) := []
noncomputable def ref30_Outlives_ls0 : List (Nat × LCtr) := []
theorem ref30_Outlives_lsok0 : LsOK Try.prog Try.f49.ntmps ref30_Outlives_code ref30_Outlives_ls0 := trivial
noncomputable def ref30_Outlives_j115_v (x : ((List V_easementref08_Pair) × Int × Int × Bool × Unit)) : Option (((List V_easementref08_Pair) × Unit) ⊕ Empty) :=
  cond (x.2.2.2.1)
    (let v1 := x.1 ++ [(x.2.1, x.2.2.1, ())]
    ck (roomB v1.length 19) <|
    some (.inl (v1, ())))
    (some (.inl (x.1, ())))
noncomputable def ref30_Outlives_j115 : LCtr := ⟨[5, 7, 9, 57], (.cons (.own t_easementref08_Pair) (.cons (.val (.int .i64)) (.cons (.val (.int .i64)) (.cons (.val .bool) .nil)))), [], [2, 7, 8, 9], [⟨.normal, [5], (.cons (.own t_easementref08_Pair) .nil), [none]⟩], [], ref30_Outlives_j115_v⟩
noncomputable def ref30_Outlives_ls1 : List (Nat × LCtr) := (1704051, ref30_Outlives_j115) :: ref30_Outlives_ls0
theorem ref30_Outlives_lsok1 : LsOK Try.prog Try.f49.ntmps ref30_Outlives_code ref30_Outlives_ls1 :=
  join_at (L := ref30_Outlives_j115) (fz := ref30_Outlives_fz) ref30_Outlives_fsok ref30_Outlives_isok ref30_Outlives_lsok0 (by kernel_rfl) (by kernel_rfl) (fun x => by kernel_rfl)
noncomputable def ref30_Outlives_l20_step (g : ((Int × Int × (List V_easementref08_Pair) × (List V_api_Type) × (List V_api_Slot) × (List V_api_Sig) × (List V_api_Block) × Unit) × (List V_easementref08_Pair) × Int × (List Int) × Int × Unit) → Option (((List V_easementref08_Pair) × (Int × Int × (List V_easementref08_Pair) × (List V_api_Type) × (List V_api_Slot) × (List V_api_Sig) × (List V_api_Block) × Unit) × Unit) ⊕ Empty)) (x : ((Int × Int × (List V_easementref08_Pair) × (List V_api_Type) × (List V_api_Slot) × (List V_api_Sig) × (List V_api_Block) × Unit) × (List V_easementref08_Pair) × Int × (List Int) × Int × Unit)) : Option (((List V_easementref08_Pair) × (Int × Int × (List V_easementref08_Pair) × (List V_api_Type) × (List V_api_Slot) × (List V_api_Sig) × (List V_api_Block) × Unit) × Unit) ⊕ Empty) :=
  cond (cond (decide (x.2.2.2.2.1 < x.1.1)) (decide (x.2.2.2.2.1 < x.1.2.1)) false)
    (ck ((inB x.2.2.2.2.1 (x.2.2.2.1.length)) || !(x.2.2.2.2.1 != x.2.2.1)) <|
    Option.bind (ref30_Outlives_j115_v (x.2.1, x.2.2.1, x.2.2.2.2.1, cond (x.2.2.2.2.1 != x.2.2.1) ((rdL (.int .i64) x.2.2.2.1 x.2.2.2.2.1) == (1 : Int)) false, ())) fun y4 => out1 y4
      (fun z5 =>
        g ((x.1.1, x.1.2.1, x.1.2.2.1, x.1.2.2.2.1, x.1.2.2.2.2.1, x.1.2.2.2.2.2.1, x.1.2.2.2.2.2.2.1, ()), z5.1, x.2.2.1, x.2.2.2.1, IntKind.i64.wrap (x.2.2.2.2.1 + (1 : Int)), ())))
    (some (.inl (x.2.1, (x.1.1, x.1.2.1, x.1.2.2.1, x.1.2.2.2.1, x.1.2.2.2.2.1, x.1.2.2.2.2.2.1, x.1.2.2.2.2.2.2.1, ()), ())))
noncomputable def ref30_Outlives_l20 : LCtr := ⟨[2, 5, 7, 8, 9], (.cons (.ptr (.cons (.val (.int .i64)) (.cons (.val (.int .i64)) (.cons (.val (.lst t_easementref08_Pair)) (.cons (.val (.lst t_api_Type)) (.cons (.val (.lst t_api_Slot)) (.cons (.val (.lst t_api_Sig)) (.cons (.val (.lst t_api_Block)) .nil)))))))) (.cons (.own t_easementref08_Pair) (.cons (.val (.int .i64)) (.cons (.val (.lst (.int .i64))) (.cons (.val (.int .i64)) .nil))))), [some 0, none], [2, 6, 7], [⟨(.exit 2), [5, 2], (.cons (.own t_easementref08_Pair) (.cons (.ptr (.cons (.val (.int .i64)) (.cons (.val (.int .i64)) (.cons (.val (.lst t_easementref08_Pair)) (.cons (.val (.lst t_api_Type)) (.cons (.val (.lst t_api_Slot)) (.cons (.val (.lst t_api_Sig)) (.cons (.val (.lst t_api_Block)) .nil)))))))) .nil)), [none, some 0]⟩], [], lim ref30_Outlives_l20_step⟩
noncomputable def ref30_Outlives_ls2 : List (Nat × LCtr) := (20, ref30_Outlives_l20) :: ref30_Outlives_ls1
theorem ref30_Outlives_lsok2 : LsOK Try.prog Try.f49.ntmps ref30_Outlives_code ref30_Outlives_ls2 :=
  loop_at (L := ref30_Outlives_l20) (fz := ref30_Outlives_fz) ref30_Outlives_fsok ref30_Outlives_isok ref30_Outlives_lsok1 (by kernel_rfl) (by kernel_rfl) (by kernel_rfl) (step := ref30_Outlives_l20_step) rfl (fun g x => by kernel_rfl)
noncomputable def ref30_Outlives_l12_step (g : ((Int × Int × (List V_easementref08_Pair) × (List V_api_Type) × (List V_api_Slot) × (List V_api_Sig) × (List V_api_Block) × Unit) × (List V_easementref08_Pair) × (List V_easementref08_Pair) × Int × Unit) → Option (((List V_easementref08_Pair) × (Int × Int × (List V_easementref08_Pair) × (List V_api_Type) × (List V_api_Slot) × (List V_api_Sig) × (List V_api_Block) × Unit) × Unit) ⊕ Empty)) (x : ((Int × Int × (List V_easementref08_Pair) × (List V_api_Type) × (List V_api_Slot) × (List V_api_Sig) × (List V_api_Block) × Unit) × (List V_easementref08_Pair) × (List V_easementref08_Pair) × Int × Unit)) : Option (((List V_easementref08_Pair) × (Int × Int × (List V_easementref08_Pair) × (List V_api_Type) × (List V_api_Slot) × (List V_api_Sig) × (List V_api_Block) × Unit) × Unit) ⊕ Empty) :=
  cond (cond (decide (x.2.2.2.1 < x.1.1)) (decide (x.2.2.2.1 < x.1.2.1)) false)
    (Option.bind (ref10_Reach (x.1.2.1, x.2.2.1, x.2.2.2.1, ())) fun y3 =>
    Option.bind (lim ref30_Outlives_l20_step ((x.1.1, x.1.2.1, x.1.2.2.1, x.1.2.2.2.1, x.1.2.2.2.2.1, x.1.2.2.2.2.2.1, x.1.2.2.2.2.2.2.1, ()), x.2.1, x.2.2.2.1, y3.1, (0 : Int), ())) fun y6 => out1 y6
      (fun z7 =>
        g ((z7.2.1.1, z7.2.1.2.1, z7.2.1.2.2.1, z7.2.1.2.2.2.1, z7.2.1.2.2.2.2.1, z7.2.1.2.2.2.2.2.1, z7.2.1.2.2.2.2.2.2.1, ()), z7.1, x.2.2.1, IntKind.i64.wrap (x.2.2.2.1 + (1 : Int)), ())))
    (some (.inl (x.2.1, (x.1.1, x.1.2.1, x.1.2.2.1, x.1.2.2.2.1, x.1.2.2.2.2.1, x.1.2.2.2.2.2.1, x.1.2.2.2.2.2.2.1, ()), ())))
noncomputable def ref30_Outlives_l12 : LCtr := ⟨[2, 5, 6, 7], (.cons (.ptr (.cons (.val (.int .i64)) (.cons (.val (.int .i64)) (.cons (.val (.lst t_easementref08_Pair)) (.cons (.val (.lst t_api_Type)) (.cons (.val (.lst t_api_Slot)) (.cons (.val (.lst t_api_Sig)) (.cons (.val (.lst t_api_Block)) .nil)))))))) (.cons (.own t_easementref08_Pair) (.cons (.val (.lst t_easementref08_Pair)) (.cons (.val (.int .i64)) .nil)))), [some 0, none], [], [⟨(.exit 0), [5, 2], (.cons (.own t_easementref08_Pair) (.cons (.ptr (.cons (.val (.int .i64)) (.cons (.val (.int .i64)) (.cons (.val (.lst t_easementref08_Pair)) (.cons (.val (.lst t_api_Type)) (.cons (.val (.lst t_api_Slot)) (.cons (.val (.lst t_api_Sig)) (.cons (.val (.lst t_api_Block)) .nil)))))))) .nil)), [none, some 0]⟩], [], lim ref30_Outlives_l12_step⟩
noncomputable def ref30_Outlives_ls3 : List (Nat × LCtr) := (12, ref30_Outlives_l12) :: ref30_Outlives_ls2
theorem ref30_Outlives_lsok3 : LsOK Try.prog Try.f49.ntmps ref30_Outlives_code ref30_Outlives_ls3 :=
  loop_at (L := ref30_Outlives_l12) (fz := ref30_Outlives_fz) ref30_Outlives_fsok ref30_Outlives_isok ref30_Outlives_lsok2 (by kernel_rfl) (by kernel_rfl) (by kernel_rfl) (step := ref30_Outlives_l12_step) rfl (fun g x => by kernel_rfl)
noncomputable def ref30_Outlives (x : (V_api_Body × (List V_api_Edge) × Unit)) : Option ((List V_easementref08_Pair) × Unit) :=
  Option.bind (ref27_Arcs (x.2.1, ())) fun y1 =>
  Option.bind (ref10_Check (x.1.2.1, y1.1, ())) fun y2 =>
  cond (y2.1 != (0 : Int))
    (some (([] : List V_easementref08_Pair), ()))
    (Option.bind (lim ref30_Outlives_l12_step ((x.1.1, x.1.2.1, x.1.2.2.1, x.1.2.2.2.1, x.1.2.2.2.2.1, x.1.2.2.2.2.2.1, x.1.2.2.2.2.2.2.1, ()), ([] : List V_easementref08_Pair), y1.1, (0 : Int), ())) fun y8 => out1 y8
      (fun z9 =>
        some (z9.1, ())))
noncomputable def ref30_Outlives_c : Ctr := ⟨(.cons t_api_Body (.cons (.lst t_api_Edge) .nil)), (.cons (.lst t_easementref08_Pair) .nil), ref30_Outlives, none⟩
theorem ref30_Outlives_ok : CtrOK Try.prog 49 ref30_Outlives_c :=
  fun_at (fz := ref30_Outlives_fz) ref30_Outlives_fsok ref30_Outlives_isok Try.func49 (by kernel_rfl) (c := ref30_Outlives_code) (by kernel_rfl) ref30_Outlives_lsok3 (by kernel_rfl) (fun x => by kernel_rfl)
/-! ### easement/easementref30.Loose: function 52 -/
noncomputable def ref30_Loose_code : Code := Try.f52.body.getD .skip
noncomputable def ref30_Loose_fs : List (Nat × Ctr) := [(86, ref27_Arcs_c), (87, ref10_Check_c)]
noncomputable def ref30_Loose_is : List (Nat × List PI) := []
theorem ref30_Loose_fsok : FsOK Try.prog ref30_Loose_fs := ⟨ref27_Arcs_ok, ref10_Check_ok, trivial⟩
theorem ref30_Loose_isok : IsOK Try.prog ref30_Loose_is := trivial
def ref30_Loose_fz : List (Nat × List Nat) := []
noncomputable def ref30_Loose_ls0 : List (Nat × LCtr) := []
theorem ref30_Loose_lsok0 : LsOK Try.prog Try.f52.ntmps ref30_Loose_code ref30_Loose_ls0 := trivial
noncomputable def ref30_Loose_l18_step (g : ((List V_api_Edge) × Int × Bool × Int × Unit) → Option ((Bool × Unit) ⊕ Empty)) (x : ((List V_api_Edge) × Int × Bool × Int × Unit)) : Option ((Bool × Unit) ⊕ Empty) :=
  cond (decide (x.2.2.2.1 < (x.1.length : Int)))
    (ck ((inB x.2.2.2.1 (x.1.length)) || !(!x.2.2.1)) <|
    let v1 := cond x.2.2.1 true ((rdL t_api_Edge x.1 x.2.2.2.1).1 == x.2.1)
    ck ((inB x.2.2.2.1 (x.1.length)) || !(!v1)) <|
    g (x.1, x.2.1, cond v1 true ((rdL t_api_Edge x.1 x.2.2.2.1).2.1 == x.2.1), IntKind.i64.wrap (x.2.2.2.1 + (1 : Int)), ()))
    (some (.inl (x.2.2.1, ())))
noncomputable def ref30_Loose_l18 : LCtr := ⟨[1, 6, 7, 8], (.cons (.val (.lst t_api_Edge)) (.cons (.val (.int .i64)) (.cons (.val .bool) (.cons (.val (.int .i64)) .nil)))), [], [1, 2, 5, 6], [⟨(.exit 2), [7], (.cons (.val .bool) .nil), []⟩], [], lim ref30_Loose_l18_step⟩
noncomputable def ref30_Loose_ls1 : List (Nat × LCtr) := (18, ref30_Loose_l18) :: ref30_Loose_ls0
theorem ref30_Loose_lsok1 : LsOK Try.prog Try.f52.ntmps ref30_Loose_code ref30_Loose_ls1 :=
  loop_at (L := ref30_Loose_l18) (fz := ref30_Loose_fz) ref30_Loose_fsok ref30_Loose_isok ref30_Loose_lsok0 (by kernel_rfl) (by kernel_rfl) (by kernel_rfl) (step := ref30_Loose_l18_step) rfl (fun g x => by kernel_rfl)
noncomputable def ref30_Loose_j99_v (x : ((List Int) × Int × Bool × Unit)) : Option (((List Int) × Unit) ⊕ Empty) :=
  cond (x.2.2.1)
    (ck (roomB (x.1 ++ [x.2.1]).length 10) <|
    some (.inl (x.1 ++ [x.2.1], ())))
    (some (.inl (x.1, ())))
noncomputable def ref30_Loose_j99 : LCtr := ⟨[5, 6, 49], (.cons (.own (.int .i64)) (.cons (.val (.int .i64)) (.cons (.val .bool) .nil))), [], [1, 2, 6], [⟨.normal, [5], (.cons (.own (.int .i64)) .nil), [none]⟩], [], ref30_Loose_j99_v⟩
noncomputable def ref30_Loose_ls2 : List (Nat × LCtr) := (1704035, ref30_Loose_j99) :: ref30_Loose_ls1
theorem ref30_Loose_lsok2 : LsOK Try.prog Try.f52.ntmps ref30_Loose_code ref30_Loose_ls2 :=
  join_at (L := ref30_Loose_j99) (fz := ref30_Loose_fz) ref30_Loose_fsok ref30_Loose_isok ref30_Loose_lsok1 (by kernel_rfl) (by kernel_rfl) (fun x => by kernel_rfl)
noncomputable def ref30_Loose_l10_step (g : ((Int × Int × (List V_easementref08_Pair) × (List V_api_Type) × (List V_api_Slot) × (List V_api_Sig) × (List V_api_Block) × Unit) × (List V_api_Edge) × (List Int) × Int × Unit) → Option (((List Int) × (Int × Int × (List V_easementref08_Pair) × (List V_api_Type) × (List V_api_Slot) × (List V_api_Sig) × (List V_api_Block) × Unit) × Unit) ⊕ Empty)) (x : ((Int × Int × (List V_easementref08_Pair) × (List V_api_Type) × (List V_api_Slot) × (List V_api_Sig) × (List V_api_Block) × Unit) × (List V_api_Edge) × (List Int) × Int × Unit)) : Option (((List Int) × (Int × Int × (List V_easementref08_Pair) × (List V_api_Type) × (List V_api_Slot) × (List V_api_Sig) × (List V_api_Block) × Unit) × Unit) ⊕ Empty) :=
  cond (decide (x.2.2.2.1 < x.1.2.1))
    (Option.bind (lim ref30_Loose_l18_step (x.2.1, x.2.2.2.1, false, (0 : Int), ())) fun y3 => out1 y3
      (fun z4 =>
        Option.bind (ref30_Loose_j99_v (x.2.2.1, x.2.2.2.1, !z4.1, ())) fun y5 => out1 y5
          (fun z6 =>
            g ((x.1.1, x.1.2.1, x.1.2.2.1, x.1.2.2.2.1, x.1.2.2.2.2.1, x.1.2.2.2.2.2.1, x.1.2.2.2.2.2.2.1, ()), x.2.1, z6.1, IntKind.i64.wrap (x.2.2.2.1 + (1 : Int)), ()))))
    (some (.inl (x.2.2.1, (x.1.1, x.1.2.1, x.1.2.2.1, x.1.2.2.2.1, x.1.2.2.2.2.1, x.1.2.2.2.2.2.1, x.1.2.2.2.2.2.2.1, ()), ())))
noncomputable def ref30_Loose_l10 : LCtr := ⟨[2, 1, 5, 6], (.cons (.ptr (.cons (.val (.int .i64)) (.cons (.val (.int .i64)) (.cons (.val (.lst t_easementref08_Pair)) (.cons (.val (.lst t_api_Type)) (.cons (.val (.lst t_api_Slot)) (.cons (.val (.lst t_api_Sig)) (.cons (.val (.lst t_api_Block)) .nil)))))))) (.cons (.val (.lst t_api_Edge)) (.cons (.own (.int .i64)) (.cons (.val (.int .i64)) .nil)))), [some 0, none], [], [⟨(.exit 0), [5, 2], (.cons (.own (.int .i64)) (.cons (.ptr (.cons (.val (.int .i64)) (.cons (.val (.int .i64)) (.cons (.val (.lst t_easementref08_Pair)) (.cons (.val (.lst t_api_Type)) (.cons (.val (.lst t_api_Slot)) (.cons (.val (.lst t_api_Sig)) (.cons (.val (.lst t_api_Block)) .nil)))))))) .nil)), [none, some 0]⟩], [], lim ref30_Loose_l10_step⟩
noncomputable def ref30_Loose_ls3 : List (Nat × LCtr) := (10, ref30_Loose_l10) :: ref30_Loose_ls2
theorem ref30_Loose_lsok3 : LsOK Try.prog Try.f52.ntmps ref30_Loose_code ref30_Loose_ls3 :=
  loop_at (L := ref30_Loose_l10) (fz := ref30_Loose_fz) ref30_Loose_fsok ref30_Loose_isok ref30_Loose_lsok2 (by kernel_rfl) (by kernel_rfl) (by kernel_rfl) (step := ref30_Loose_l10_step) rfl (fun g x => by kernel_rfl)
noncomputable def ref30_Loose (x : (V_api_Body × (List V_api_Edge) × Unit)) : Option ((List Int) × Unit) :=
  Option.bind (ref27_Arcs (x.2.1, ())) fun y1 =>
  Option.bind (ref10_Check (x.1.2.1, y1.1, ())) fun y2 =>
  cond (y2.1 != (0 : Int))
    (some (([] : List Int), ()))
    (Option.bind (lim ref30_Loose_l10_step ((x.1.1, x.1.2.1, x.1.2.2.1, x.1.2.2.2.1, x.1.2.2.2.2.1, x.1.2.2.2.2.2.1, x.1.2.2.2.2.2.2.1, ()), x.2.1, ([] : List Int), (0 : Int), ())) fun y7 => out1 y7
      (fun z8 =>
        some (z8.1, ())))
noncomputable def ref30_Loose_c : Ctr := ⟨(.cons t_api_Body (.cons (.lst t_api_Edge) .nil)), (.cons (.lst (.int .i64)) .nil), ref30_Loose, none⟩
theorem ref30_Loose_ok : CtrOK Try.prog 52 ref30_Loose_c :=
  fun_at (fz := ref30_Loose_fz) ref30_Loose_fsok ref30_Loose_isok Try.func52 (by kernel_rfl) (c := ref30_Loose_code) (by kernel_rfl) ref30_Loose_lsok3 (by kernel_rfl) (fun x => by kernel_rfl)
/-! ### easement/easementlaw30.ModelOutlives: function 8 -/
noncomputable def law30_ModelOutlives_code : Code := Try.f8.body.getD .skip
noncomputable def law30_ModelOutlives_fs : List (Nat × Ctr) := [(46, law30_awake_c), (48, model_Outlives_c), (49, ref30_Outlives_c), (47, ref17_Bounds_c), (51, model_Loose_c), (52, ref30_Loose_c), (50, ref01_Same_c)]
noncomputable def law30_ModelOutlives_is : List (Nat × List PI) := []
theorem law30_ModelOutlives_fsok : FsOK Try.prog law30_ModelOutlives_fs := ⟨law30_awake_ok, model_Outlives_ok, ref30_Outlives_ok, ref17_Bounds_ok, model_Loose_ok, ref30_Loose_ok, ref01_Same_ok, trivial⟩
theorem law30_ModelOutlives_isok : IsOK Try.prog law30_ModelOutlives_is := trivial
def law30_ModelOutlives_fz : List (Nat × List Nat) := []
noncomputable def law30_ModelOutlives_ls0 : List (Nat × LCtr) := []
theorem law30_ModelOutlives_lsok0 : LsOK Try.prog Try.f8.ntmps law30_ModelOutlives_code law30_ModelOutlives_ls0 := trivial
noncomputable def law30_ModelOutlives (x : (Int × Int × (List V_api_Edge) × Unit)) : Option (Bool × Unit) :=
  cond (cond (cond (decide (x.1 > (20 : Int))) true (decide (x.2.1 > (20 : Int)))) true (decide ((x.2.2.1.length : Int) > (80 : Int))))
    (Option.bind (law30_awake ()) fun y1 =>
    some (y1.1, ()))
    (Option.bind (model_Outlives ((x.1, x.2.1, ([] : List V_easementref08_Pair), ([] : List V_api_Type), ([] : List V_api_Slot), ([] : List V_api_Sig), ([] : List V_api_Block), ()), x.2.2.1, ())) fun y2 =>
    Option.bind (ref30_Outlives ((x.1, x.2.1, ([] : List V_easementref08_Pair), ([] : List V_api_Type), ([] : List V_api_Slot), ([] : List V_api_Sig), ([] : List V_api_Block), ()), x.2.2.1, ())) fun y3 =>
    Option.bind (ref17_Bounds (y2.1, y3.1, ())) fun y4 =>
    cond (y4.1)
      (Option.bind (model_Loose ((x.1, x.2.1, ([] : List V_easementref08_Pair), ([] : List V_api_Type), ([] : List V_api_Slot), ([] : List V_api_Sig), ([] : List V_api_Block), ()), x.2.2.1, ())) fun y5 =>
      Option.bind (ref30_Loose ((x.1, x.2.1, ([] : List V_easementref08_Pair), ([] : List V_api_Type), ([] : List V_api_Slot), ([] : List V_api_Sig), ([] : List V_api_Block), ()), x.2.2.1, ())) fun y6 =>
      Option.bind (ref01_Same (y5.1, y6.1, ())) fun y7 =>
      cond (y7.1)
        (Option.bind (law30_awake ()) fun y8 =>
        some (y8.1, ()))
        (some (false, ())))
      (some (false, ())))
noncomputable def law30_ModelOutlives_c : Ctr := ⟨(.cons (.int .i64) (.cons (.int .i64) (.cons (.lst t_api_Edge) .nil))), (.cons .bool .nil), law30_ModelOutlives, none⟩
theorem law30_ModelOutlives_ok : CtrOK Try.prog 8 law30_ModelOutlives_c :=
  fun_at (fz := law30_ModelOutlives_fz) law30_ModelOutlives_fsok law30_ModelOutlives_isok Try.func8 (by kernel_rfl) (c := law30_ModelOutlives_code) (by kernel_rfl) law30_ModelOutlives_lsok0 (by kernel_rfl) (fun x => by kernel_rfl)
end Go.XD


/- Plain words: tables of whole numbers, loops that count up. -/
namespace Go.XD

/-- A loop whose rounds are told by their number. -/
theorem lim_up {A B : Type} {step : (A → Option B) → A → Option B} {y : B} (st : Nat → A) (n : Nat) (h1 : ∀ g i, i < n → step g (st i) = g (st (i + 1))) (h2 : ∀ g, step g (st n) = some y) : lim step (st 0) = some y := by
  have key : ∀ d i, i + d = n → ∀ k, d + 1 ≤ k → iter step k (st i) = some y := by
    intro d
    induction d with
    | zero =>
      intro i hi k hk
      cases k with
      | zero => omega
      | succ k =>
        simp only [iter]
        rw [show i = n by omega]
        exact h2 _
    | succ d ih =>
      intro i hi k hk
      cases k with
      | zero => omega
      | succ k =>
        simp only [iter]
        rw [h1 _ i (by omega)]
        exact ih (i + 1) (by omega) k (by omega)
  exact lim_eq (n + 1) (fun k hk => key n 0 (by omega) k hk)

theorem wrap32 {n : Int} (h1 : -2147483648 ≤ n) (h2 : n ≤ 2147483647) : IntKind.i32.wrap n = n := by
  show (if (true && decide (n % (4294967296 : Int) ≥ 2147483648)) = true then n % (4294967296 : Int) - 4294967296 else n % (4294967296 : Int)) = n
  simp only [Bool.true_and, decide_eq_true_eq]
  split <;> omega

/-- A table by a function. -/
def tab (m : Nat) (g : Nat → Int) : List Int := (List.range m).map g
@[simp] theorem tab_len (m : Nat) (g : Nat → Int) : (tab m g).length = m := by simp [tab]
theorem tab_get {m k : Nat} {g : Nat → Int} {d : Int} (h : k < m) : (tab m g).getD k d = g k := by
  simp [tab, List.getD_eq_getElem?_getD, h]
theorem tab_at {m k : Nat} {g : Nat → Int} (h : k < (tab m g).length) : (tab m g)[k] = g k := by simp [tab]
theorem tab_ext {m : Nat} {g g' : Nat → Int} (h : ∀ k, k < m → g k = g' k) : tab m g = tab m g' := by
  unfold tab
  exact List.map_congr_left fun k hk => h k (List.mem_range.1 hk)
theorem tab_set {m k : Nat} {g g' : Nat → Int} {v : Int} (hv : g' k = v) (h : ∀ j, j ≠ k → g' j = g j) : (tab m g).set k v = tab m g' := by
  apply List.ext_getElem
  · simp
  · intro i h1 h2
    rw [List.getElem_set, tab_at, tab_at]
    split
    · rename_i e; rw [← e, hv]
    · rename_i e; exact (h i (Ne.symm e)).symm
theorem tab_rep (m : Nat) (v : Int) : List.replicate m v = tab m fun _ => v := by
  apply List.ext_getElem
  · simp
  · intro i h1 h2
    rw [List.getElem_replicate, tab_at]
theorem tab_of (l : List Int) : l = tab l.length fun k => l.getD k 0 := by
  apply List.ext_getElem
  · simp
  · intro i h1 h2
    rw [tab_at, List.getD_eq_getElem?_getD, List.getElem?_eq_getElem h1]
    rfl
theorem tab_take {m k : Nat} {g : Nat → Int} (h : k ≤ m) : (tab m g).take k = tab k g := by
  apply List.ext_getElem
  · simp; omega
  · intro i h1 h2
    rw [List.getElem_take, tab_at, tab_at]
theorem tab_drop {m k : Nat} {g : Nat → Int} : (tab m g).drop k = tab (m - k) fun j => g (k + j) := by
  apply List.ext_getElem
  · simp
  · intro i h1 h2
    rw [List.getElem_drop, tab_at, tab_at]

theorem rdL_tab {q : IntKind} {m k : Nat} {g : Nat → Int} (h : k < m) : rdL (.int q) (tab m g) (k : Int) = g k := by
  unfold rdL
  rw [Int.toNat_natCast]
  exact tab_get h

/-! ### Counting -/
section
variable {α : Type}
theorem countP_take_succ {p : α → Bool} {l : List α} {i : Nat} (h : i < l.length) : (l.take (i + 1)).countP p = (l.take i).countP p + (if p l[i] then 1 else 0) := by
  rw [take_snoc h, List.countP_append, List.countP_singleton]
theorem countP_take_le {p : α → Bool} {l : List α} {i j : Nat} (h : i ≤ j) : (l.take i).countP p ≤ (l.take j).countP p := by
  have : (l.take i).Sublist (l.take j) := by
    rw [show l.take i = (l.take j).take i from by rw [List.take_take, Nat.min_eq_left h]]
    exact List.take_sublist _ _
  exact this.countP_le
theorem countP_take_len {p : α → Bool} {l : List α} {i : Nat} : (l.take i).countP p ≤ l.countP p := (List.take_sublist _ _).countP_le
/-- The k-th of the numbers that fit: just k fit ahead of it. -/
theorem range_sel {p : Nat → Bool} : ∀ {m k : Nat} (h : k < ((List.range m).filter p).length), p (((List.range m).filter p)[k]) = true ∧ ((List.range m).filter p)[k] < m ∧ ((List.range (((List.range m).filter p)[k])).filter p).length = k
  | 0, k, h => by simp at h
  | m + 1, k, h => by
    have e : (List.range (m + 1)).filter p = (List.range m).filter p ++ (if p m then [m] else []) := by
      rw [List.range_succ, List.filter_append]
      simp [List.filter_cons]
    by_cases hk : k < ((List.range m).filter p).length
    · have ih := range_sel (p := p) hk
      have e2 : ((List.range (m + 1)).filter p)[k] = ((List.range m).filter p)[k] := by
        simp only [e]
        rw [List.getElem_append_left hk]
      rw [e2]
      exact ⟨ih.1, by omega, ih.2.2⟩
    · have hp : p m = true := by
        cases hpm : p m with
        | true => rfl
        | false =>
          rw [e, hpm] at h
          simp at h
          omega
      have hk' : k = ((List.range m).filter p).length := by
        rw [e, hp] at h
        simp at h
        omega
      have e2 : ((List.range (m + 1)).filter p)[k] = m := by
        simp only [e, hp, if_true]
        rw [List.getElem_append_right (by omega)]
        simp
      rw [e2]
      exact ⟨hp, by omega, hk'.symm⟩
theorem countP_range (d : α) {p : α → Bool} {l : List α} : ∀ {i : Nat}, i ≤ l.length → (l.take i).countP p = ((List.range i).filter fun j => p (l.getD j d)).length
  | 0, _ => by simp
  | i + 1, h => by
    rw [countP_take_succ (by omega), countP_range d (by omega), List.range_succ, List.filter_append, List.length_append]
    congr 1
    have : l.getD i d = l[i] := by simp [List.getD_eq_getElem?_getD, show i < l.length by omega]
    simp only [List.filter_cons, List.filter_nil]
    rw [this]
    split <;> simp
end
end Go.XD


/- Plain law of the graph package: arcs, laid by their nodes. -/
namespace Go.XD

abbrev Arc := V_easementref08_Pair
def nd (b : Bool) (a : Arc) : Int := cond b a.2.1 a.1
def ndN (b : Bool) (a : Arc) : Nat := (nd b a).toNat
/-- All arcs are between nodes. -/
def InR (n : Nat) (A : List Arc) : Prop := ∀ a ∈ A, 0 ≤ a.1 ∧ a.1 < n ∧ 0 ≤ a.2.1 ∧ a.2.1 < n
theorem InR.nd {n : Nat} {A : List Arc} (h : InR n A) (b : Bool) {a : Arc} (ha : a ∈ A) : nd b a = (ndN b a : Nat) ∧ ndN b a < n := by
  have := h a ha
  unfold ndN XD.nd
  cases b <;> simp only [cond_true, cond_false] <;> omega
def CB (b : Bool) (A : List Arc) (v : Nat) : Nat := A.countP fun a => decide (ndN b a < v)
def cn (b : Bool) (A : List Arc) (v : Nat) : Nat := A.countP fun a => ndN b a == v
theorem countP_or {α : Type} {p q r : α → Bool} (h : ∀ a, (r a = true ↔ p a = true ∨ q a = true)) (hd : ∀ a, ¬ (p a = true ∧ q a = true)) : ∀ l : List α, l.countP r = l.countP p + l.countP q
  | [] => rfl
  | a :: l => by
    rw [List.countP_cons, List.countP_cons, List.countP_cons, countP_or h hd l]
    have h1 := h a
    have h2 := hd a
    cases hp : p a <;> cases hq : q a <;> cases hr : r a <;> simp_all <;> omega
theorem CB_succ (b : Bool) (A : List Arc) (v : Nat) : CB b A (v + 1) = CB b A v + cn b A v :=
  countP_or (fun a => by simp; omega) (fun a => by simp; omega) A
theorem CB_zero (b : Bool) (A : List Arc) : CB b A 0 = 0 := by simp [CB]
theorem CB_mono (b : Bool) (A : List Arc) {u v : Nat} (h : u ≤ v) : CB b A u ≤ CB b A v := by
  unfold CB
  exact List.countP_mono_left fun a _ h' => by simp at h' ⊢; omega
theorem CB_all {b : Bool} {A : List Arc} {n : Nat} (h : InR n A) : CB b A n = A.length := by
  unfold CB
  rw [List.countP_eq_length]
  intro a ha
  simp [(h.nd b ha).2]
/-- Where an arc is laid. -/
def pos (b : Bool) (A : List Arc) (j : Nat) : Nat := CB b A (ndN b (A.getD j (0, 0, ()))) + cn b (A.take j) (ndN b (A.getD j (0, 0, ())))
theorem cn_lt {b : Bool} {A : List Arc} {j : Nat} (h : j < A.length) : cn b (A.take j) (ndN b (A.getD j (0, 0, ()))) < cn b A (ndN b (A.getD j (0, 0, ()))) := by
  have e : A.getD j (0, 0, ()) = A[j] := by simp [List.getD_eq_getElem?_getD, h]
  have h1 : cn b (A.take (j + 1)) (ndN b (A.getD j (0, 0, ()))) = cn b (A.take j) (ndN b (A.getD j (0, 0, ()))) + 1 := by
    unfold cn
    rw [countP_take_succ h, e]
    simp
  have h2 : cn b (A.take (j + 1)) (ndN b (A.getD j (0, 0, ()))) ≤ cn b A (ndN b (A.getD j (0, 0, ()))) := countP_take_len
  omega
theorem pos_lt {b : Bool} {A : List Arc} {n j : Nat} (hA : InR n A) (h : j < A.length) : pos b A j < A.length := by
  have e : A.getD j (0, 0, ()) = A[j] := by simp [List.getD_eq_getElem?_getD, h]
  have h1 := cn_lt (b := b) h
  have h2 := CB_succ b A (ndN b (A.getD j (0, 0, ())))
  have h3 : CB b A (ndN b (A.getD j (0, 0, ())) + 1) ≤ CB b A n := CB_mono b A (by rw [e]; exact (hA.nd b (List.getElem_mem h)).2)
  rw [CB_all hA] at h3
  unfold pos
  omega
theorem pos_inj {b : Bool} {A : List Arc} {i j : Nat} (hi : i < A.length) (hj : j < A.length) (h : pos b A i = pos b A j) : i = j := by
  have key : ∀ i j, i < A.length → j < A.length → pos b A i = pos b A j → ndN b (A.getD i (0, 0, ())) < ndN b (A.getD j (0, 0, ())) → False := fun i j hi hj h hlt => by
    have h1 := cn_lt (b := b) hi
    have h2 := CB_succ b A (ndN b (A.getD i (0, 0, ())))
    have h3 := CB_mono b A (show ndN b (A.getD i (0, 0, ())) + 1 ≤ ndN b (A.getD j (0, 0, ())) from hlt)
    unfold pos at h
    omega
  have key2 : ∀ i j, i < A.length → j < A.length → pos b A i = pos b A j → ndN b (A.getD i (0, 0, ())) = ndN b (A.getD j (0, 0, ())) → i < j → False := fun i j hi hj h he hlt => by
    have e : A.getD i (0, 0, ()) = A[i] := by simp [List.getD_eq_getElem?_getD, hi]
    have h1 : cn b (A.take (i + 1)) (ndN b (A.getD i (0, 0, ()))) = cn b (A.take i) (ndN b (A.getD i (0, 0, ()))) + 1 := by
      unfold cn
      rw [countP_take_succ hi, e]
      simp
    have h2 : cn b (A.take (i + 1)) (ndN b (A.getD i (0, 0, ()))) ≤ cn b (A.take j) (ndN b (A.getD i (0, 0, ()))) := countP_take_le hlt
    unfold pos at h
    rw [← he] at h
    omega
  rcases Nat.lt_trichotomy (ndN b (A.getD i (0, 0, ()))) (ndN b (A.getD j (0, 0, ()))) with hl | hl | hl
  · exact (key i j hi hj h hl).elim
  · rcases Nat.lt_trichotomy i j with h' | h' | h'
    · exact (key2 i j hi hj h hl h').elim
    · exact h'
    · exact (key2 j i hj hi h.symm hl.symm h').elim
  · exact (key j i hj hi h.symm hl).elim
/-- What is laid at a place after some arcs. -/
def outF (b : Bool) (A : List Arc) (i p : Nat) : Int := match (List.range i).find? fun j => pos b A j == p with
  | some j => (j : Int)
  | none => 0
theorem outF_succ {b : Bool} {A : List Arc} {i p : Nat} (hi : i < A.length) : outF b A (i + 1) p = if p = pos b A i then (i : Int) else outF b A i p := by
  unfold outF
  rw [List.range_succ, List.find?_append]
  by_cases hp : p = pos b A i
  · rw [if_pos hp]
    have : (List.range i).find? (fun j => pos b A j == p) = none := by
      rw [List.find?_eq_none]
      intro j hj
      have hj' := List.mem_range.1 hj
      simp only [beq_iff_eq]
      intro e
      have := pos_inj (b := b) (A := A) (by omega : j < A.length) hi (by rw [e, hp])
      omega
    rw [this]
    simp [hp]
  · rw [if_neg hp]
    have : List.find? (fun j => pos b A j == p) [i] = none := by
      rw [List.find?_eq_none]
      intro j hj
      simp at hj
      subst hj
      simpa using Ne.symm hp
    rw [this]
    simp
theorem outF_pos {b : Bool} {A : List Arc} {j : Nat} (hj : j < A.length) : outF b A A.length (pos b A j) = j := by
  unfold outF
  cases h : (List.range A.length).find? fun k => pos b A k == pos b A j with
  | none =>
    rw [List.find?_eq_none] at h
    have := h j (List.mem_range.2 hj)
    simp at this
  | some k =>
    have h1 := List.find?_some h
    have h2 := List.mem_range.1 (List.mem_of_find?_eq_some h)
    simp only [beq_iff_eq] at h1
    simp only
    rw [pos_inj h2 hj h1]
/-- Numbers, as whole numbers. -/
def ofN (l : List Nat) : List Int := l.map fun (j : Nat) => (j : Int)
/-- The arcs of a node, rising. -/
def sel (b : Bool) (A : List Arc) (v : Nat) : List Nat := (List.range A.length).filter fun j => ndN b (A.getD j (0, 0, ())) == v
theorem sel_len (b : Bool) (A : List Arc) (v : Nat) : (sel b A v).length = cn b A v := by
  have := countP_range (0, 0, ()) (p := fun a => ndN b a == v) (l := A) (Nat.le_refl A.length)
  rw [List.take_length] at this
  exact this.symm
/-- A node's part of the laid arcs. -/
theorem laid_part (b : Bool) (A : List Arc) (v : Nat) {m : Nat} (hm : m = A.length) (hle : CB b A (v + 1) ≤ m) :
    ((tab m (outF b A A.length)).take (CB b A (v + 1))).drop (CB b A v) = ofN (sel b A v) := by
  unfold ofN
  rw [tab_take hle, tab_drop]
  have hl : CB b A (v + 1) - CB b A v = (sel b A v).length := by
    rw [sel_len, CB_succ]
    omega
  apply List.ext_getElem
  · simp [hl]
  · intro k h1 h2
    rw [tab_at, List.getElem_map]
    have hk : k < (sel b A v).length := by simpa using h2
    obtain ⟨g1, g2, g3⟩ := range_sel (p := fun j => ndN b (A.getD j (0, 0, ())) == v) hk
    have e : CB b A v + k = pos b A ((sel b A v)[k]) := by
      unfold pos
      simp only [beq_iff_eq] at g1
      have hv : ndN b (A.getD ((sel b A v)[k]) (0, 0, ())) = v := g1
      rw [hv]
      congr 1
      have := countP_range (0, 0, ()) (p := fun a => ndN b a == v) (l := A) (Nat.le_of_lt g2)
      unfold cn
      exact (this.trans g3).symm
    rw [e]
    exact outF_pos g2

/-! ### The loops of lay -/
theorem node_eq (b : Bool) (a : Arc) : graph_lay_1_p0 ((a.1, a.2.1, ()), (b, ()), ()) = some (.inl (nd b a, (b, ()), ())) := by
  unfold graph_lay_1_p0 nd
  cases b <;> rfl
theorem rdL_arc {A : List Arc} {i : Nat} (h : i < A.length) : rdL t_easementref08_Pair A (i : Int) = A[i] := rdL_nat t_easementref08_Pair A h

section
variable {n : Nat} {A : List Arc} {b : Bool} (hA : InR n A) (hn : n ≤ 1048576) (hm : A.length ≤ 67108864)
include hA hn hm

theorem lay1 : lim graph_lay_l8_step (((b, ()), ()), List.replicate (n + 1) (0 : Int), A, (A.length : Int), (0 : Int), ()) = some (.inl (((b, ()), ()), tab (n + 1) (fun j => (A.countP fun a => ndN b a + 1 == j : Nat)), ())) := by
  have := lim_up (step := graph_lay_l8_step) (y := .inl (((b, ()), ()), tab (n + 1) (fun j => (A.countP fun a => ndN b a + 1 == j : Nat)), ()))
    (fun i => (((b, ()), ()), tab (n + 1) (fun j => ((A.take i).countP fun a => ndN b a + 1 == j : Nat)), A, (A.length : Int), (i : Int), ())) A.length (fun g i hi => ?_) (fun g => ?_)
  · rw [tab_rep]
    simpa using this
  · have hin := hA.nd b (List.getElem_mem hi)
    unfold graph_lay_l8_step
    simp only [dlt hi, cond_true, inB_nat hi, ck_true, rdL_arc hi, node_eq, Option.bind_some, out1_inl]
    rw [hin.1, wrap_succ (by omega), wrap_succ (by omega)]
    simp only [inB_nat (show ndN b A[i] + 1 < (tab (n + 1) (fun j => ((A.take i).countP fun a => ndN b a + 1 == j : Nat))).length by simp; omega), ck_true]
    congr 3
    simp only [Int.toNat_natCast]
    rw [tab_get (by omega)]
    refine tab_set ?_ (fun j hj => ?_)
    · rw [countP_take_succ hi]
      have : (A.take i).countP (fun a => ndN b a + 1 == ndN b A[i] + 1) ≤ (A.take i).length := List.countP_le_length
      have h2 : (A.take i).length ≤ A.length := by simp; omega
      rw [wrap32 (by omega) (by omega)]
      simp
    · rw [countP_take_succ hi, if_neg (by simpa using Ne.symm hj)]
      simp
  · unfold graph_lay_l8_step
    simp only [dge (Nat.lt_irrefl _), cond_false, List.take_length]

theorem lay2 : lim graph_lay_l18_step (tab (n + 1) (fun j => (A.countP fun a => ndN b a + 1 == j : Nat)), (n : Int), (0 : Int), ()) = some (.inl (tab (n + 1) (fun j => (CB b A j : Nat)), ())) := by
  have := lim_up (step := graph_lay_l18_step) (y := .inl (tab (n + 1) (fun j => (CB b A j : Nat)), ()))
    (fun i => (tab (n + 1) (fun j => if j ≤ i then (CB b A j : Nat) else (A.countP fun a => ndN b a + 1 == j : Nat)), (n : Int), (i : Int), ())) n (fun g i hi => ?_) (fun g => ?_)
  · rw [← this]
    congr 2
    refine tab_ext fun k hk => ?_
    by_cases h0 : k ≤ 0
    · have : k = 0 := by omega
      subst this
      simp [CB_zero]
    · rw [if_neg h0]
  · unfold graph_lay_l18_step
    simp only [dlt hi, cond_true, wrap_succ (show i < 9223372036854775807 by omega), inB_nat (show i + 1 < (tab (n + 1) (fun j => if j ≤ i then (CB b A j : Int) else ((A.countP fun a => ndN b a + 1 == j : Nat) : Int))).length by simp; omega), inB_nat (show i < (tab (n + 1) (fun j => if j ≤ i then (CB b A j : Int) else ((A.countP fun a => ndN b a + 1 == j : Nat) : Int))).length by simp; omega), ck_true]
    congr 2
    simp only [Int.toNat_natCast]
    rw [tab_get (by omega), tab_get (by omega)]
    have h1 : CB b A i + cn b A i = CB b A (i + 1) := (CB_succ b A i).symm
    have h2 : CB b A (i + 1) ≤ A.length := List.countP_le_length
    have e : (A.countP fun a => ndN b a + 1 == i + 1) = cn b A i := by
      unfold cn
      exact List.countP_congr fun a _ => by simp
    refine tab_set ?_ (fun j hj => ?_)
    · rw [if_pos (Nat.le_refl _), if_neg (by omega), if_pos (Nat.le_refl _), e, wrap32 (by omega) (by omega)]
      omega
    · by_cases hj2 : j ≤ i
      · rw [if_pos (by omega), if_pos hj2]
      · rw [if_neg (by omega), if_neg hj2]
  · unfold graph_lay_l18_step
    simp only [dge (Nat.lt_irrefl _), cond_false]
    congr 3
    exact tab_ext fun k hk => by rw [if_pos (by omega)]

theorem lay3 : lim graph_lay_l32_step (((b, ()), ()), tab (n + 1) (fun j => (CB b A j : Nat)), List.replicate A.length (0 : Int), A, (A.length : Int), (0 : Int), ()) =
    some (.inl (((b, ()), ()), tab (n + 1) (fun j => (CB b A j + cn b A j : Nat)), tab A.length (outF b A A.length), ())) := by
  have := lim_up (step := graph_lay_l32_step) (y := .inl (((b, ()), ()), tab (n + 1) (fun j => (CB b A j + cn b A j : Nat)), tab A.length (outF b A A.length), ()))
    (fun i => (((b, ()), ()), tab (n + 1) (fun j => (CB b A j + cn b (A.take i) j : Nat)), tab A.length (outF b A i), A, (A.length : Int), (i : Int), ())) A.length (fun g i hi => ?_) (fun g => ?_)
  · rw [tab_rep, ← this]
    have e0 : outF b A 0 = fun _ => 0 := by
      funext p
      simp [outF]
    simp [cn, e0]
  · have hin := hA.nd b (List.getElem_mem hi)
    have e : A.getD i (0, 0, ()) = A[i] := by simp [List.getD_eq_getElem?_getD, hi]
    have hpos : pos b A i = CB b A (ndN b A[i]) + cn b (A.take i) (ndN b A[i]) := by unfold pos; rw [e]
    have hplt := pos_lt (b := b) hA hi
    unfold graph_lay_l32_step
    simp only [dlt hi, cond_true, inB_nat hi, ck_true, rdL_arc hi, node_eq, Option.bind_some, out1_inl]
    rw [hin.1]
    have hb1 : inB ((ndN b A[i] : Nat) : Int) (tab (n + 1) (fun j => ((CB b A j + cn b (A.take i) j : Nat) : Int))).length = true := inB_nat (by simp; omega)
    simp only [hb1, ck_true, Int.toNat_natCast]
    rw [tab_get (by omega), ← hpos]
    simp only [inB_nat (show pos b A i < (tab A.length (outF b A i)).length by simpa using hplt), ck_true, Int.toNat_natCast]
    rw [wrap_succ (by omega), wrap32 (by omega) (by omega), wrap32 (by omega) (by omega)]
    congr 3
    · refine tab_set ?_ (fun j hj => ?_)
      · rw [show cn b (A.take (i + 1)) (ndN b A[i]) = cn b (A.take i) (ndN b A[i]) + 1 from by unfold cn; rw [countP_take_succ hi]; simp]
        omega
      · rw [show cn b (A.take (i + 1)) j = cn b (A.take i) j from by unfold cn; rw [countP_take_succ hi]; simp; omega]
    · congr 1
      exact tab_set (by rw [outF_succ hi, if_pos rfl]) (fun j hj => by rw [outF_succ hi, if_neg hj])
  · unfold graph_lay_l32_step
    simp only [dge (Nat.lt_irrefl _), cond_false, List.take_length]

theorem lay_eq : graph_lay ((n : Int), A, b, ()) = some (tab A.length (outF b A A.length), tab (n + 1) (fun j => (CB b A j : Nat)), ()) := by
  unfold graph_lay
  simp only [wrap_succ (show n < 9223372036854775807 by omega), Int.toNat_natCast]
  rw [lay1 hA hn hm]
  simp only [Option.bind_some, out1_inl]
  rw [lay2 hA hn hm]
  simp only [Option.bind_some, out1_inl, List.nil_append, tab_len]
  rw [lay3 hA hn hm, roomB_ok (by omega)]
  simp only [Option.bind_some, out1_inl, ck_true]
  rw [show (decide ((0 : Int) ≤ ((n + 1 : Nat) : Int)) && decide (((n + 1 : Nat) : Int) ≤ ((n + 1 : Nat) : Int)) && decide (((n + 1 : Nat) : Int) * ((6 : Nat) : Int) ≤ 35184372088832)) = true from by simp; omega,
    show (decide ((0 : Int) ≤ (A.length : Int)) && decide ((A.length : Int) ≤ (A.length : Int)) && decide ((A.length : Int) * ((6 : Nat) : Int) ≤ 35184372088832)) = true from by simp; omega]
  simp only [ck_true]
end

/-! ### New -/
def badArc (n : Int) (a : Arc) : Bool := decide (a.1 < 0) || decide (a.1 ≥ n) || decide (a.2.1 < 0) || decide (a.2.1 ≥ n)
theorem findIdx_not {α : Type} {p : α → Bool} {l : List α} {i : Nat} (hi : i < l.findIdx p) (hl : i < l.length) : p l[i] = false := by
  have := List.not_of_lt_findIdx hi
  simpa using this
theorem New_loop (n : Int) (A : List Arc) (hl : A.length ≤ 67108864) : lim graph_New_l12_step (n, A, (A.length : Int), (0 : Int), ()) = some (if A.any (badArc n) then .inl ((), (7 : Int), ()) else .inr (.inl ())) := by
  refine lim_up (step := graph_New_l12_step) (fun i => (n, A, (A.length : Int), (i : Int), ())) (A.findIdx (badArc n)) (fun g i hi => ?_) (fun g => ?_)
  · have hil : i < A.length := Nat.lt_of_lt_of_le hi List.findIdx_le_length
    have := findIdx_not hi hil
    unfold graph_New_l12_step
    simp only [dlt hil, cond_true, inB_nat hil, ck_true, rdL_arc hil, cond_or]
    change (bif badArc n A[i] then _ else _) = _
    rw [this, wrap_succ (by omega)]
    rfl
  · unfold graph_New_l12_step
    by_cases hex : A.any (badArc n) = true
    · have hil : A.findIdx (badArc n) < A.length := List.findIdx_lt_length_of_exists (by
        obtain ⟨a, h1, h2⟩ := List.any_eq_true.1 hex
        exact ⟨a, h1, h2⟩)
      have hb : badArc n A[A.findIdx (badArc n)] = true := List.findIdx_getElem (w := hil)
      simp only [dlt hil, cond_true, inB_nat hil, ck_true, rdL_arc hil, cond_or]
      change (bif badArc n A[A.findIdx (badArc n)] then _ else _) = _
      rw [hb, if_pos hex]
      rfl
    · have : A.findIdx (badArc n) = A.length := by
        rw [List.findIdx_eq_length]
        intro a ha
        cases h : badArc n a with
        | false => rfl
        | true => exact absurd (List.any_eq_true.2 ⟨a, ha, h⟩) hex
      rw [this, if_neg hex]
      simp only [dge (Nat.lt_irrefl _), cond_false]
theorem inR_of {n : Nat} {A : List Arc} (h : A.any (badArc n) = false) : InR n A := fun a ha => by
  have := List.any_eq_false.1 h a ha
  simp only [badArc, Bool.or_eq_true, decide_eq_true_eq, not_or, Int.not_lt, Int.not_le, ge_iff_le] at this
  omega
/-- The graph. -/
def gr (n : Nat) (A : List Arc) : V_graph_Graph := ((n : Int), A, tab A.length (outF false A A.length), tab A.length (outF true A A.length), tab (n + 1) (fun j => (CB false A j : Nat)), tab (n + 1) (fun j => (CB true A j : Nat)), ())
theorem New_eq {n : Nat} {A : List Arc} (hA : InR n A) (hn : n ≤ 1048576) (hm : A.length ≤ 67108864) : graph_New ((n : Int), A, ()) = some (some (gr n A), (0 : Int), ()) := by
  have hb : A.any (badArc n) = false := by
    rw [List.any_eq_false]
    intro a ha h
    have := hA a ha
    simp only [badArc, Bool.or_eq_true, decide_eq_true_eq] at h
    omega
  unfold graph_New
  simp only
  rw [New_loop _ _ hm, hb]
  rw [show decide ((n : Int) < 0) = false from by simp, show decide ((n : Int) > 1048576) = false from by simp; omega, show decide ((A.length : Int) > 67108864) = false from by simp; omega]
  simp only [cond_false, Bool.false_eq_true, if_false, Option.bind_some, out2_inr, List.nil_append]
  rw [roomB_ok (by omega), ck_true, lay_eq hA hn hm, lay_eq hA hn hm]
  rfl
theorem New_neg {n : Int} {A : List Arc} (h : n < 0) : graph_New (n, A, ()) = some (none, (2 : Int), ()) := by
  unfold graph_New
  simp [h]
theorem New_bad {n : Int} {A : List Arc} (h0 : 0 ≤ n) (hn : n ≤ 1048576) (hm : A.length ≤ 67108864) (h : A.any (badArc n) = true) : graph_New (n, A, ()) = some (none, (7 : Int), ()) := by
  unfold graph_New
  simp only
  rw [New_loop _ _ hm, h]
  rw [show decide (n < 0) = false from by simp; omega, show decide (n > 1048576) = false from by simp; omega, show decide ((A.length : Int) > 67108864) = false from by simp; omega]
  simp only [cond_false, if_true, Option.bind_some, out2_inl]

/-! ### Out, In, Next -/
theorem Nodes_some {g : V_graph_Graph} : graph_Graph_Nodes (some g, ()) = some (g.1, ()) := by
  unfold graph_Graph_Nodes
  rfl
theorem Nodes_none : graph_Graph_Nodes (none, ()) = some (0, ()) := by
  unfold graph_Graph_Nodes
  rfl
section
variable {l : List Int} (hl : l.length ≤ 67108864) (hr : ∀ x ∈ l, 0 ≤ x ∧ x ≤ 67108864)
include hl hr
theorem ints_rd {i : Nat} (hi : i < l.length) : IntKind.i64.wrap (rdL (.int .i32) l (i : Int)) = l[i] := by
  rw [rdL_nat (.int .i32) l hi]
  have := hr l[i] (List.getElem_mem hi)
  exact wrap64 (by omega) (by omega)
theorem ints_loop : lim graph_ints_l6_step (List.replicate l.length (0 : Int), l, (l.length : Int), (0 : Int), ()) = some (.inl (l, ())) := by
  have := lim_up (step := graph_ints_l6_step) (y := .inl (l, ())) (fun i => (tab l.length (fun k => if k < i then l.getD k 0 else 0), l, (l.length : Int), (i : Int), ())) l.length (fun g i hi => ?_) (fun g => ?_)
  · rw [tab_rep]
    simpa using this
  · unfold graph_ints_l6_step
    simp only [dlt hi, cond_true, inB_nat hi, ck_true, ints_rd hl hr hi, wrap_succ (show i < 9223372036854775807 by omega), inB_nat (show i < (tab l.length (fun k => if k < i then l.getD k 0 else 0)).length by simpa using hi), Int.toNat_natCast]
    congr 2
    refine tab_set ?_ (fun j hj => ?_)
    · rw [if_pos (by omega)]
      simp [List.getD_eq_getElem?_getD, hi]
    · by_cases h : j < i
      · rw [if_pos h, if_pos (by omega)]
      · rw [if_neg h, if_neg (by omega)]
  · unfold graph_ints_l6_step
    simp only [dge (Nat.lt_irrefl _), cond_false]
    rw [tab_ext (g' := fun k => l.getD k 0) (fun k hk => by rw [if_pos hk]), ← tab_of]
theorem ints_loop_p : lim graph_ints_p0_l6_step (List.replicate l.length (0 : Int), l, (l.length : Int), (0 : Int), ()) = some (.inl (l, ())) := ints_loop hl hr
theorem ints_ck : (decide ((0 : Int) ≤ (l.length : Int)) && decide ((l.length : Int) ≤ (l.length : Int)) && decide ((l.length : Int) * ((10 : Nat) : Int) ≤ 35184372088832)) = true := by simp; omega
theorem ints_eq : graph_ints (l, ()) = some (l, ()) := by
  unfold graph_ints
  simp only
  rw [ints_ck hl hr, ck_true, Int.toNat_natCast, ints_loop hl hr]
  rfl
theorem ints_eq_p : graph_ints_p0 (l, ()) = some (.inl (l, ())) := by
  unfold graph_ints_p0
  simp only
  rw [ints_ck hl hr, ck_true, Int.toNat_natCast, ints_loop_p hl hr]
  rfl
end
theorem sel_bound {b : Bool} {A : List Arc} {v : Nat} {j : Nat} (h : j ∈ sel b A v) : j < A.length ∧ ndN b (A.getD j (0, 0, ())) = v := by
  unfold sel at h
  rw [List.mem_filter, List.mem_range] at h
  simpa using h
section
variable {n : Nat} {A : List Arc} (hA : InR n A) (hn : n ≤ 1048576) (hm : A.length ≤ 67108864)
include hA hn hm
theorem sel_ok {b : Bool} {v : Nat} : (ofN (sel b A v)).length ≤ 67108864 ∧ ∀ x ∈ ofN (sel b A v), 0 ≤ x ∧ x ≤ 67108864 := by
  constructor
  · unfold ofN
    rw [List.length_map, sel_len]
    exact Nat.le_trans List.countP_le_length hm
  · intro x hx
    obtain ⟨j, h1, rfl⟩ := List.mem_map.1 hx
    have := (sel_bound h1).1
    omega
theorem part_ck {b : Bool} {v : Nat} (hv : v < n) : CB b A (v + 1) ≤ A.length ∧ CB b A v ≤ CB b A (v + 1) := ⟨List.countP_le_length, CB_mono b A (Nat.le_succ v)⟩
theorem Out_eq {v : Nat} (hv : v < n) : graph_Graph_Out (some (gr n A), (v : Int), ()) = some (ofN (sel false A v), ()) := by
  obtain ⟨k1, k2⟩ := part_ck hA hn hm (b := false) hv
  unfold graph_Graph_Out
  simp only [Nodes_some, Option.bind_some, Option.isSome_some, ck_true, Option.getD_some, gr]
  rw [show decide ((v : Int) < 0) = false from by simp, show decide ((v : Int) ≥ (n : Int)) = false from by simp; omega]
  simp only [Bool.not_false, cond_true, cond_false, wrap_succ (show v < 9223372036854775807 by omega), tab_len, inB_nat (show v < n + 1 by omega), inB_nat (show v + 1 < n + 1 by omega), ck_true]
  simp only [rdL_tab (show v < n + 1 by omega), rdL_tab (show v + 1 < n + 1 by omega), Int.toNat_natCast]
  rw [show (decide ((0 : Int) ≤ ((CB false A v : Nat) : Int)) && decide (((CB false A v : Nat) : Int) ≤ ((CB false A (v + 1) : Nat) : Int)) && decide (((CB false A (v + 1) : Nat) : Int) ≤ (A.length : Int))) = true from by simp; omega, ck_true, laid_part false A v rfl k1, ints_eq (sel_ok hA hn hm).1 (sel_ok hA hn hm).2]
  rfl
theorem In_eq {v : Nat} (hv : v < n) : graph_Graph_In (some (gr n A), (v : Int), ()) = some (ofN (sel true A v), ()) := by
  obtain ⟨k1, k2⟩ := part_ck hA hn hm (b := true) hv
  unfold graph_Graph_In
  simp only [Nodes_some, Option.bind_some, Option.isSome_some, ck_true, Option.getD_some, gr]
  rw [show decide ((v : Int) < 0) = false from by simp, show decide ((v : Int) ≥ (n : Int)) = false from by simp; omega]
  simp only [Bool.not_false, cond_true, cond_false, wrap_succ (show v < 9223372036854775807 by omega), tab_len, inB_nat (show v < n + 1 by omega), inB_nat (show v + 1 < n + 1 by omega), ck_true]
  simp only [rdL_tab (show v < n + 1 by omega), rdL_tab (show v + 1 < n + 1 by omega), Int.toNat_natCast]
  rw [show (decide ((0 : Int) ≤ ((CB true A v : Nat) : Int)) && decide (((CB true A v : Nat) : Int) ≤ ((CB true A (v + 1) : Nat) : Int)) && decide (((CB true A (v + 1) : Nat) : Int) ≤ (A.length : Int))) = true from by simp; omega, ck_true, laid_part true A v rfl k1, ints_eq (sel_ok hA hn hm).1 (sel_ok hA hn hm).2]
  rfl
theorem Out_p_eq {v : Nat} (hv : v < n) : graph_Graph_Out_p0 (some (gr n A), (v : Int), ()) = some (.inl (ofN (sel false A v), ())) := by
  obtain ⟨k1, k2⟩ := part_ck hA hn hm (b := false) hv
  unfold graph_Graph_Out_p0
  simp only [Nodes_some, Option.bind_some, Option.isSome_some, ck_true, Option.getD_some, gr]
  rw [show decide ((v : Int) < 0) = false from by simp, show decide ((v : Int) ≥ (n : Int)) = false from by simp; omega]
  simp only [Bool.not_false, cond_true, cond_false, wrap_succ (show v < 9223372036854775807 by omega), tab_len, inB_nat (show v < n + 1 by omega), inB_nat (show v + 1 < n + 1 by omega), ck_true]
  simp only [rdL_tab (show v < n + 1 by omega), rdL_tab (show v + 1 < n + 1 by omega), Int.toNat_natCast]
  rw [show (decide ((0 : Int) ≤ ((CB false A v : Nat) : Int)) && decide (((CB false A v : Nat) : Int) ≤ ((CB false A (v + 1) : Nat) : Int)) && decide (((CB false A (v + 1) : Nat) : Int) ≤ (A.length : Int))) = true from by simp; omega, ck_true, laid_part false A v rfl k1, ints_eq_p (sel_ok hA hn hm).1 (sel_ok hA hn hm).2]
  rfl
/-- Where a node's arcs lead. -/
def nxt (A : List Arc) (v : Nat) : List Int := (sel false A v).map fun j => (A.getD j (0, 0, ())).2.1
omit hA in
theorem Next_loop {v : Nat} : lim graph_Graph_Next_l6_step (some (gr n A), ofN (sel false A v), ((ofN (sel false A v)).length : Int), (0 : Int), ()) = some (.inl (nxt A v, ())) := by
  have hlen : (ofN (sel false A v)).length = (sel false A v).length := by simp [ofN]
  have hle : (sel false A v).length ≤ A.length := by rw [sel_len]; exact List.countP_le_length
  have := lim_up (step := graph_Graph_Next_l6_step) (y := .inl (nxt A v, ())) (fun i => (some (gr n A), (nxt A v).take i ++ (ofN (sel false A v)).drop i, ((ofN (sel false A v)).length : Int), (i : Int), ())) (ofN (sel false A v)).length (fun g i hi => ?_) (fun g => ?_)
  · simpa using this
  · rw [hlen] at hi
    have hil : i < ((nxt A v).take i ++ (ofN (sel false A v)).drop i).length := by simp [nxt, ofN]; omega
    have hj := sel_bound (List.getElem_mem hi)
    unfold graph_Graph_Next_l6_step
    simp only [hlen, dlt hi, cond_true, inB_nat hil, ck_true, Option.isSome_some, Option.getD_some, wrap_succ (show i < 9223372036854775807 by omega), Int.toNat_natCast]
    have hg : ((nxt A v).take i ++ (ofN (sel false A v)).drop i).getD i (Ty.dflt (.int .i64)) = (((sel false A v)[i] : Nat) : Int) := by
      rw [List.getD_eq_getElem?_getD, List.getElem?_append_right (by simp [nxt]; omega), List.length_take, List.getElem?_drop]
      simp [nxt, ofN, hi, Nat.min_eq_left (Nat.le_of_lt hi)]
    rw [hg]
    simp only [gr, inB_nat hj.1, ck_true, rdL_arc hj.1]
    congr 3
    apply List.ext_getElem?
    intro k
    rw [List.getElem?_set]
    have e : A[(sel false A v)[i]].2.1 = (A.getD (sel false A v)[i] (0, 0, ())).2.1 := by simp [List.getD_eq_getElem?_getD, hj.1]
    by_cases hk : i = k
    · subst hk
      rw [if_pos rfl, if_pos hil, e, List.getElem?_append_left (by simp [nxt]; omega), List.getElem?_take_of_lt (by omega)]
      simp [nxt, hi]
    · rw [if_neg hk]
      by_cases hlt : k < i
      · rw [List.getElem?_append_left (by simp [nxt]; omega), List.getElem?_append_left (by simp [nxt]; omega), List.getElem?_take_of_lt (by omega), List.getElem?_take_of_lt (by omega)]
      · rw [List.getElem?_append_right (by simp [nxt]; omega), List.getElem?_append_right (by simp [nxt]; omega), List.getElem?_drop, List.getElem?_drop]
        congr 1
        simp [nxt]
        omega
  · unfold graph_Graph_Next_l6_step
    simp only [dge (Nat.lt_irrefl _), cond_false]
    rw [hlen, List.take_of_length_le (by simp [nxt]), List.drop_eq_nil_of_le (by simp [ofN]), List.append_nil]
theorem Next_eq {v : Nat} (hv : v < n) : graph_Graph_Next (some (gr n A), (v : Int), ()) = some (nxt A v, ()) := by
  unfold graph_Graph_Next
  simp only [Out_p_eq hA hn hm hv, Option.bind_some, out1_inl]
  rw [Next_loop hn hm]
  rfl
end

/-! ### Reach -/
/-- Arcs lead from one to the other. -/
inductive Rch (A : List Arc) (v : Nat) : Nat → Prop
  | refl : Rch A v v
  | step {a : Arc} (h : Rch A v (ndN false a)) (ha : a ∈ A) : Rch A v (ndN true a)
open Classical in
/-- 1 of each that is reached. -/
noncomputable def ind (A : List Arc) (v w : Nat) : Int := if Rch A v w then 1 else 0
theorem nxt_mem {A : List Arc} {v : Nat} {x : Int} : x ∈ nxt A v ↔ ∃ a ∈ A, ndN false a = v ∧ a.2.1 = x := by
  unfold nxt
  rw [List.mem_map]
  constructor
  · rintro ⟨j, h1, h2⟩
    obtain ⟨k1, k2⟩ := sel_bound h1
    exact ⟨A.getD j (0, 0, ()), by simp [List.getD_eq_getElem?_getD, k1], k2, h2⟩
  · rintro ⟨a, h1, h2, h3⟩
    obtain ⟨j, hj, rfl⟩ := List.getElem_of_mem h1
    have e : A.getD j (0, 0, ()) = A[j] := by simp [List.getD_eq_getElem?_getD, hj]
    refine ⟨j, ?_, by rw [e]; exact h3⟩
    unfold sel
    rw [List.mem_filter, List.mem_range]
    exact ⟨hj, by rw [e]; simpa using h2⟩
/-- A node is looked at. -/
def vis (s : List Int × List Int) (w : Int) : List Int × List Int := if s.1.getD w.toNat 0 = 0 then (s.1.set w.toNat 1, s.2 ++ [w]) else s
theorem vis_len (s : List Int × List Int) (w : Int) : (vis s w).1.length = s.1.length := by unfold vis; split <;> simp
theorem visL_len (l : List Int) : ∀ s : List Int × List Int, (l.foldl vis s).1.length = s.1.length := by
  induction l with
  | nil => intro s; rfl
  | cons w l ih => intro s; rw [List.foldl_cons, ih, vis_len]
/-- How many are not yet reached. -/
def zs (b : List Int) : Nat := b.countP fun x => x == 0
theorem zs_set {b : List Int} {k : Nat} (hk : k < b.length) (h : b[k] = 0) : zs (b.set k 1) + 1 = zs b := by
  unfold zs
  rw [List.countP_set hk, h]
  have : 0 < b.countP fun x => x == 0 := List.countP_pos_iff.2 ⟨b[k], List.getElem_mem hk, by simp [h]⟩
  simp
  omega
theorem vis_ms (s : List Int × List Int) {w : Int} (hw : 0 ≤ w ∧ w < s.1.length) : zs (vis s w).1 + (vis s w).2.length = zs s.1 + s.2.length := by
  unfold vis
  split
  · rename_i h
    have hk : w.toNat < s.1.length := by omega
    have h0 : s.1[w.toNat] = 0 := by simpa [List.getD_eq_getElem?_getD, hk] using h
    have := zs_set hk h0
    simp only [List.length_append, List.length_singleton]
    omega
  · rfl
theorem visL_ms : ∀ (l : List Int) (s : List Int × List Int), (∀ w ∈ l, 0 ≤ w ∧ w < s.1.length) → zs (l.foldl vis s).1 + (l.foldl vis s).2.length = zs s.1 + s.2.length
  | [], s, _ => rfl
  | w :: l, s, h => by
    rw [List.foldl_cons, visL_ms l (vis s w) (fun w' hw' => by rw [vis_len]; exact h w' (List.mem_cons_of_mem _ hw')), vis_ms s (h w List.mem_cons_self)]
/-- What a round of looking keeps. -/
theorem vis_keep {s : List Int × List Int} {w : Int} (hw : 0 ≤ w ∧ w < s.1.length) (h01 : ∀ x ∈ s.1, x = 0 ∨ x = 1) :
    (∀ x ∈ (vis s w).1, x = 0 ∨ x = 1) ∧ (vis s w).1.getD w.toNat 0 = 1 ∧ (∀ k, s.1.getD k 0 = 1 → (vis s w).1.getD k 0 = 1) ∧ (∀ k, (vis s w).1.getD k 0 = 1 → s.1.getD k 0 = 1 ∨ k = w.toNat) ∧
    (∀ x, x ∈ (vis s w).2 → x ∈ s.2 ∨ x = w) ∧ (∀ x ∈ s.2, x ∈ (vis s w).2) ∧ (∀ k, (vis s w).1.getD k 0 = 1 → s.1.getD k 0 = 1 ∨ ((k : Nat) : Int) ∈ (vis s w).2) := by
  have hk : w.toNat < s.1.length := by omega
  have e : s.1.getD w.toNat 0 = s.1[w.toNat] := by simp [List.getD_eq_getElem?_getD, hk]
  have gs : ∀ k, (s.1.set w.toNat 1).getD k 0 = if k = w.toNat then 1 else s.1.getD k 0 := fun k => by
    rw [List.getD_eq_getElem?_getD, List.getElem?_set]
    by_cases h : w.toNat = k
    · rw [if_pos h, if_pos hk, if_pos h.symm]; rfl
    · rw [if_neg h, if_neg (Ne.symm h), List.getD_eq_getElem?_getD]
  unfold vis
  split
  · rename_i h
    refine ⟨fun x hx => ?_, by simp only [gs, if_pos], fun k hk' => ?_, fun k hk' => ?_, fun x hx => ?_, fun x hx => List.mem_append_left _ hx, fun k hk' => ?_⟩
    · rcases List.mem_or_eq_of_mem_set hx with h' | h'
      · exact h01 x h'
      · exact .inr h'
    · simp only [gs]
      split
      · rfl
      · exact hk'
    · simp only [gs] at hk'
      split at hk'
      · rename_i e'; exact .inr e'
      · exact .inl hk'
    · simpa using hx
    · simp only [gs] at hk'
      split at hk'
      · rename_i e'
        right
        rw [List.mem_append]
        right
        rw [e']
        simp
        omega
      · exact .inl hk'
  · rename_i h
    have h1 : s.1.getD w.toNat 0 = 1 := by
      rw [e] at h ⊢
      rcases h01 _ (List.getElem_mem hk) with h' | h'
      · exact absurd h' h
      · exact h'
    exact ⟨h01, h1, fun _ h => h, fun _ h => .inl h, fun x hx => .inl hx, fun x hx => hx, fun k h => .inl h⟩
theorem visL_keep : ∀ (l : List Int) (s : List Int × List Int), (∀ w ∈ l, 0 ≤ w ∧ w < s.1.length) → (∀ x ∈ s.1, x = 0 ∨ x = 1) →
    (∀ x ∈ (l.foldl vis s).1, x = 0 ∨ x = 1) ∧ (∀ w ∈ l, (l.foldl vis s).1.getD w.toNat 0 = 1) ∧ (∀ k, s.1.getD k 0 = 1 → (l.foldl vis s).1.getD k 0 = 1) ∧ (∀ k, (l.foldl vis s).1.getD k 0 = 1 → s.1.getD k 0 = 1 ∨ ∃ w ∈ l, k = w.toNat) ∧
    (∀ x, x ∈ (l.foldl vis s).2 → x ∈ s.2 ∨ x ∈ l) ∧ (∀ x ∈ s.2, x ∈ (l.foldl vis s).2) ∧ (∀ k, (l.foldl vis s).1.getD k 0 = 1 → s.1.getD k 0 = 1 ∨ ((k : Nat) : Int) ∈ (l.foldl vis s).2)
  | [], s, _, h01 => ⟨h01, fun _ h => (by cases h), fun _ h => h, fun _ h => .inl h, fun _ h => .inl h, fun _ h => h, fun _ h => .inl h⟩
  | w :: l, s, h, h01 => by
    obtain ⟨a1, a2, a3, a4, a5, a6, a7⟩ := vis_keep (h w List.mem_cons_self) h01
    obtain ⟨b1, b2, b3, b4, b5, b6, b7⟩ := visL_keep l (vis s w) (fun w' hw' => by rw [vis_len]; exact h w' (List.mem_cons_of_mem _ hw')) a1
    rw [List.foldl_cons]
    refine ⟨b1, fun w' hw' => ?_, fun k hk => b3 k (a3 k hk), fun k hk => ?_, fun x hx => ?_, fun x hx => b6 x (a6 x hx), fun k hk => ?_⟩
    · rcases List.mem_cons.1 hw' with rfl | hw'
      · exact b3 _ a2
      · exact b2 w' hw'
    · rcases b4 k hk with h' | ⟨w', h1, h2⟩
      · rcases a4 k h' with h' | h'
        · exact .inl h'
        · exact .inr ⟨w, List.mem_cons_self, h'⟩
      · exact .inr ⟨w', List.mem_cons_of_mem _ h1, h2⟩
    · rcases b5 x hx with h' | h'
      · rcases a5 x h' with h' | h'
        · exact .inl h'
        · exact .inr (h' ▸ List.mem_cons_self)
      · exact .inr (List.mem_cons_of_mem _ h')
    · rcases b7 k hk with h' | h'
      · rcases a7 k h' with h' | h'
        · exact .inl h'
        · exact .inr (b6 _ h')
      · exact .inr h'

theorem j115_eq {b wk : List Int} {w : Int} (hw : 0 ≤ w ∧ w < b.length) (hr : wk.length ≤ 2000000) : graph_Graph_Reach_j115_v (b, wk, w, (b.getD w.toNat (Ty.dflt (.int .i64))) == (0 : Int), ()) = some (.inl ((vis (b, wk) w).2, (vis (b, wk) w).1, ())) := by
  unfold graph_Graph_Reach_j115_v vis
  simp only
  by_cases h : b.getD w.toNat 0 = 0
  · rw [if_pos h, show (b.getD w.toNat (Ty.dflt (.int .i64)) == (0 : Int)) = true from by rw [beq_iff_eq]; exact h]
    have : inB w b.length = true := by simp [inB]; omega
    simp only [cond_true, this, ck_true]
    rw [roomB_ok (by simp; omega), ck_true]
  · rw [if_neg h, show (b.getD w.toNat (Ty.dflt (.int .i64)) == (0 : Int)) = false from by rw [beq_eq_false_iff_ne]; exact h]
    rfl
theorem inner_eq {b wk l : List Int} (hl : ∀ w ∈ l, 0 ≤ w ∧ w < b.length) (hms : zs b + wk.length ≤ 2000000) (hlen : l.length ≤ 67108864) :
    lim graph_Graph_Reach_l20_step (b, wk, l, (l.length : Int), (0 : Int), ()) = some (.inl ((l.foldl vis (b, wk)).2, (l.foldl vis (b, wk)).1, ())) := by
  refine lim_up (step := graph_Graph_Reach_l20_step) (fun i => (((l.take i).foldl vis (b, wk)).1, ((l.take i).foldl vis (b, wk)).2, l, (l.length : Int), (i : Int), ())) l.length (fun g i hi => ?_) (fun g => ?_)
  · have hw := hl l[i] (List.getElem_mem hi)
    have hsub : ∀ w ∈ l.take i, 0 ≤ w ∧ w < b.length := fun w hw => hl w (List.mem_of_mem_take hw)
    have hlen2 : ((l.take i).foldl vis (b, wk)).1.length = b.length := visL_len _ _
    have hm := visL_ms (l.take i) (b, wk) hsub
    simp only at hm
    unfold graph_Graph_Reach_l20_step
    simp only [dlt hi, cond_true, inB_nat hi, ck_true]
    rw [rdL_nat (.int .i64) l hi]
    have hin : inB l[i] ((l.take i).foldl vis (b, wk)).1.length = true := by rw [hlen2]; simp [inB]; omega
    rw [hin, ck_true, j115_eq (by rw [hlen2]; exact hw) (by omega)]
    simp only [Option.bind_some, out1_inl]
    rw [wrap_succ (by omega), take_snoc hi, List.foldl_append]
    rfl
  · unfold graph_Graph_Reach_l20_step
    simp only [dge (Nat.lt_irrefl _), cond_false, List.take_length]

structure BfsOK (n : Nat) (A : List Arc) (v : Nat) (b wk : List Int) : Prop where
  len : b.length = n
  bit : ∀ x ∈ b, x = 0 ∨ x = 1
  inw : ∀ w ∈ wk, 0 ≤ w ∧ w < n ∧ b.getD w.toNat 0 = 1
  beg : b.getD v 0 = 1
  rch : ∀ k, b.getD k 0 = 1 → Rch A v k
  clo : ∀ k, b.getD k 0 = 1 → ((k : Nat) : Int) ∈ wk ∨ ∀ x ∈ nxt A k, b.getD x.toNat 0 = 1
  ms : zs b + wk.length ≤ n + 1
theorem BfsOK.done {n : Nat} {A : List Arc} {v : Nat} {b : List Int} (h : BfsOK n A v b []) : b = tab n (ind A v) := by
  have hc : ∀ k, Rch A v k → b.getD k 0 = 1 := fun k hk => by
    induction hk with
    | refl => exact h.beg
    | step h1 h2 ih =>
      rename_i a
      rcases h.clo _ ih with h' | h'
      · cases h'
      · exact h' a.2.1 (nxt_mem.2 ⟨a, h2, rfl, rfl⟩)
  rw [tab_of b, h.len]
  refine tab_ext fun k hk => ?_
  unfold ind
  split
  · rename_i hr
    exact hc k hr
  · rename_i hr
    have hk' : k < b.length := by rw [h.len]; exact hk
    have e : b.getD k 0 = b[k] := by simp [List.getD_eq_getElem?_getD, hk']
    rcases h.bit _ (List.getElem_mem hk') with h' | h'
    · rw [e, h']
    · exact absurd (h.rch k (by rw [e, h'])) hr
section
variable {n : Nat} {A : List Arc} (hA : InR n A) (hn : n ≤ 1048576) (hm : A.length ≤ 67108864)
include hA
theorem nxt_in {k : Nat} {x : Int} (h : x ∈ nxt A k) : 0 ≤ x ∧ x < n := by
  obtain ⟨a, h1, _, rfl⟩ := nxt_mem.1 h
  have := hA a h1
  omega
theorem BfsOK.next {v : Nat} {b wk : List Int} {t : Nat} (h : BfsOK n A v b (wk ++ [((t : Nat) : Int)])) : BfsOK n A v ((nxt A t).foldl vis (b, wk)).1 ((nxt A t).foldl vis (b, wk)).2 := by
  have hin : ∀ w ∈ nxt A t, 0 ≤ w ∧ w < (b, wk).1.length := fun w hw => by
    have := nxt_in hA hw
    simp only [h.len]
    exact this
  obtain ⟨k1, k2, k3, k4, k5, k6, k7⟩ := visL_keep (nxt A t) (b, wk) hin h.bit
  have ht := h.inw t (by simp)
  have htr : Rch A v t := h.rch t (by simpa using ht.2.2)
  refine ⟨by rw [visL_len]; exact h.len, k1, fun w hw => ?_, k3 v h.beg, fun k hk => ?_, fun k hk => ?_, ?_⟩
  · rcases k5 w hw with h' | h'
    · have := h.inw w (List.mem_append_left _ h')
      exact ⟨this.1, this.2.1, k3 _ this.2.2⟩
    · have := nxt_in hA h'
      exact ⟨this.1, this.2, k2 w h'⟩
  · rcases k4 k hk with h' | ⟨w, h1, rfl⟩
    · exact h.rch k h'
    · obtain ⟨a, g1, g2, rfl⟩ := nxt_mem.1 h1
      have := Rch.step (A := A) (v := v) (a := a) (by rw [g2]; exact htr) g1
      exact this
  · rcases k7 k hk with h' | h'
    · rcases h.clo k h' with hc | hc
      · rcases List.mem_append.1 hc with hc | hc
        · exact .inl (k6 _ hc)
        · have : k = t := by
            have : (k : Int) = (t : Int) := by simpa using hc
            omega
          subst this
          exact .inr k2
      · exact .inr fun x hx => k3 _ (hc x hx)
    · exact .inl h'
  · rw [visL_ms _ _ hin]
    have := h.ms
    simp only [List.length_append, List.length_singleton] at this
    simp only
    omega
include hn hm
theorem bfs_eq {v : Nat} {b wk : List Int} (h : BfsOK n A v b wk) : lim graph_Graph_Reach_l12_step (some (gr n A), b, wk, ()) = some (.inl (tab n (ind A v), [], ())) := by
  have hex := lim_ex (step := graph_Graph_Reach_l12_step) (x := (some (gr n A), b, wk, ())) (fun x => ∃ b wk, x = (some (gr n A), b, wk, ()) ∧ BfsOK n A v b wk) (fun x => zs x.2.1 + x.2.2.1.length) (fun y => y = .inl (tab n (ind A v), [], ())) (fun x hx => ?_) ⟨b, wk, rfl, h⟩
  · obtain ⟨y, hy, hl⟩ := hex
    exact hl.trans (by rw [hy])
  · obtain ⟨b, wk, rfl, h⟩ := hx
    rcases List.eq_nil_or_concat wk with rfl | ⟨wk', t, rfl⟩
    · left
      refine ⟨_, rfl, fun g => ?_⟩
      unfold graph_Graph_Reach_l12_step
      simp only [List.length_nil]
      rw [← h.done]
      rfl
    · right
      rw [List.concat_eq_append] at h ⊢
      have ht := h.inw t (by simp)
      obtain ⟨k, rfl⟩ : ∃ k : Nat, t = (k : Int) := ⟨t.toNat, by omega⟩
      have hms := h.ms
      simp only [List.length_append, List.length_singleton] at hms
      have hin : ∀ w ∈ nxt A k, 0 ≤ w ∧ w < (b.length : Int) := fun w hw => by
        have := nxt_in hA hw
        rw [h.len]
        exact this
      have hnl : (nxt A k).length ≤ 67108864 := by
        unfold nxt
        rw [List.length_map, sel_len]
        exact Nat.le_trans List.countP_le_length hm
      refine ⟨_, ⟨_, _, rfl, h.next hA⟩, ?_, fun g => ?_⟩
      · simp only
        rw [visL_ms _ _ (by simpa using hin)]
        simp
      · unfold graph_Graph_Reach_l12_step
        have e1 : IntKind.i64.wrap (((wk' ++ [(k : Int)]).length : Int) - 1) = ((wk'.length : Nat) : Int) := by
          rw [wrap64 (by simp) (by simp; omega)]
          simp
        simp only [e1, Int.toNat_natCast]
        rw [show decide (((wk' ++ [(k : Int)]).length : Int) > 0) = true from by simp, cond_true, inB_nat (show wk'.length < (wk' ++ [(k : Int)]).length by simp), ck_true,
          show (decide ((0 : Int) ≤ ((wk'.length : Nat) : Int)) && decide (((wk'.length : Nat) : Int) ≤ ((wk' ++ [(k : Int)]).length : Int))) = true from by simp; omega, ck_true]
        have e2 : (wk' ++ [(k : Int)]).getD wk'.length (Ty.dflt (.int .i64)) = (k : Int) := by simp [List.getD_eq_getElem?_getD]
        have e3 : (wk' ++ [(k : Int)]).take wk'.length = wk' := by simp
        rw [e2, e3, Next_eq hA hn hm (by omega)]
        simp only [Option.bind_some]
        rw [inner_eq hin (by omega) hnl]
        simp only [Option.bind_some, out1_inl]
theorem begin_good {v : Nat} (hv : v < n) : BfsOK n A v ((List.replicate n (0 : Int)).set v 1) [((v : Nat) : Int)] := by
  have hl : ((List.replicate n (0 : Int)).set v 1).length = n := by simp
  have gs : ∀ k, ((List.replicate n (0 : Int)).set v 1).getD k 0 = if k = v then 1 else 0 := fun k => by
    rw [List.getD_eq_getElem?_getD, List.getElem?_set]
    by_cases h : v = k
    · rw [if_pos h, if_pos (by simpa using hv), if_pos h.symm]; rfl
    · rw [if_neg h, if_neg (Ne.symm h), List.getElem?_replicate]
      split <;> rfl
  have h1 : ∀ k, ((List.replicate n (0 : Int)).set v 1).getD k 0 = 1 → k = v := fun k hk => by
    rw [gs] at hk
    split at hk
    · assumption
    · cases hk
  refine ⟨hl, fun x hx => ?_, fun w hw => ?_, by rw [gs, if_pos rfl], fun k hk => by rw [h1 k hk]; exact .refl, fun k hk => .inl (by rw [h1 k hk]; simp), ?_⟩
  · rcases List.mem_or_eq_of_mem_set hx with h | h
    · exact .inl (List.eq_of_mem_replicate h)
    · exact .inr h
  · simp only [List.mem_singleton] at hw
    subst hw
    rw [Int.toNat_natCast, gs, if_pos rfl]
    omega
  · have : zs ((List.replicate n (0 : Int)).set v 1) ≤ n := by
      have := List.countP_le_length (p := fun x : Int => x == 0) (l := (List.replicate n (0 : Int)).set v 1)
      rw [hl] at this
      exact this
    simp only [List.length_singleton]
    omega
/-- Those that are reached, rising. -/
noncomputable def rl (n : Nat) (A : List Arc) (v : Nat) : List Nat := (List.range n).filter fun w => ind A v w == 1
omit hA hm in
theorem out_loop {v : Nat} : lim graph_Graph_Reach_l36_step (([] : List Int), tab n (ind A v), ((tab n (ind A v)).length : Int), (0 : Int), ()) = some (.inl (ofN (rl n A v), tab n (ind A v), ())) := by
  have hlen : (tab n (ind A v)).length = n := tab_len _ _
  rw [hlen]
  refine lim_up (step := graph_Graph_Reach_l36_step) (fun i => (ofN ((List.range i).filter fun w => ind A v w == 1), tab n (ind A v), (n : Int), (i : Int), ())) n (fun g i hi => ?_) (fun g => ?_)
  · unfold graph_Graph_Reach_l36_step
    simp only [dlt hi, cond_true, hlen, inB_nat hi, ck_true, Int.toNat_natCast, tab_get hi, wrap_succ (show i < 9223372036854775807 by omega)]
    unfold graph_Graph_Reach_j149_v
    simp only
    rw [List.range_succ, List.filter_append]
    have hi1 : (ofN ((List.range i).filter fun w => ind A v w == 1)).length ≤ i := by
      unfold ofN
      rw [List.length_map]
      exact Nat.le_trans (List.length_filter_le _ _) (by simp)
    by_cases h : Rch A v i
    · have e : ind A v i = 1 := by unfold ind; rw [if_pos h]
      rw [e]
      rw [show decide ((1 : Int) > 0) = true from rfl, cond_true, roomB_ok (by simp; omega), ck_true]
      simp [List.filter_cons, e, ofN]
    · have e : ind A v i = 0 := by unfold ind; rw [if_neg h]
      rw [e]
      rw [show decide ((0 : Int) > 0) = false from rfl, cond_false]
      simp [List.filter_cons, e]
  · unfold graph_Graph_Reach_l36_step
    simp only [dge (Nat.lt_irrefl _), cond_false]
    rfl
theorem Reach_eq {v : Nat} (hv : v < n) : graph_Graph_Reach (some (gr n A), (v : Int), ()) = some (ofN (rl n A v), ()) := by
  unfold graph_Graph_Reach
  simp only [Nodes_some, Option.bind_some, Option.isSome_some, ck_true, Option.getD_some, show (gr n A).1 = (n : Int) from rfl]
  rw [show decide ((v : Int) < 0) = false from by simp, show decide ((v : Int) ≥ (n : Int)) = false from by simp; omega]
  simp only [Bool.not_false, cond_true, cond_false, Int.toNat_natCast]
  rw [show (decide ((0 : Int) ≤ (n : Int)) && decide ((n : Int) ≤ (n : Int)) && decide ((n : Int) * ((10 : Nat) : Int) ≤ 35184372088832)) = true from by simp; omega, ck_true, inB_nat (by simpa using hv), ck_true, bfs_eq hA hn hm (begin_good hA hn hm hv)]
  simp only [Option.bind_some, out1_inl]
  rw [out_loop hn]
  rfl
end
end Go.XD


/- Plain law of ModelOutlives. -/
namespace Go.XD

/-! ### The reference's Reach -/
def mkA (s : List Int × Bool) (a : Arc) : List Int × Bool := if s.1.getD (ndN false a) 0 = 1 ∧ s.1.getD (ndN true a) 0 = 0 then (s.1.set (ndN true a) 1, true) else s
theorem mkA_len (s : List Int × Bool) (a : Arc) : (mkA s a).1.length = s.1.length := by unfold mkA; split <;> simp
theorem mkL_len (l : List Arc) : ∀ s : List Int × Bool, (l.foldl mkA s).1.length = s.1.length := by
  induction l with
  | nil => intro s; rfl
  | cons w l ih => intro s; rw [List.foldl_cons, ih, mkA_len]
theorem mkL_same : ∀ (l : List Arc) (s : List Int × Bool), (l.foldl mkA s).2 = false → s.2 = false ∧ (l.foldl mkA s).1 = s.1 ∧ ∀ a ∈ l, ¬ (s.1.getD (ndN false a) 0 = 1 ∧ s.1.getD (ndN true a) 0 = 0)
  | [], s, h => ⟨h, rfl, fun _ h => (by cases h)⟩
  | a :: l, s, h => by
    rw [List.foldl_cons] at h
    obtain ⟨h1, h2, h3⟩ := mkL_same l _ h
    by_cases hc : s.1.getD (ndN false a) 0 = 1 ∧ s.1.getD (ndN true a) 0 = 0
    · unfold mkA at h1
      rw [if_pos hc] at h1
      cases h1
    · have e : mkA s a = s := by unfold mkA; rw [if_neg hc]
      rw [e] at h1 h2 h3
      refine ⟨h1, by rw [List.foldl_cons, e]; exact h2, fun a' ha' => ?_⟩
      rcases List.mem_cons.1 ha' with rfl | ha'
      · exact hc
      · exact h3 a' ha'
theorem mkA_zs {n : Nat} {A : List Arc} (hA : InR n A) (s : List Int × Bool) {a : Arc} (ha : a ∈ A) (hl : s.1.length = n) : zs (mkA s a).1 + (if (mkA s a).2 = true ∧ s.2 = false then 1 else 0) ≤ zs s.1 ∧ (s.2 = true → (mkA s a).2 = true) := by
  unfold mkA
  split
  · rename_i h
    have hk : ndN true a < s.1.length := by rw [hl]; exact (hA.nd true ha).2
    have h0 : s.1[ndN true a] = 0 := by simpa [List.getD_eq_getElem?_getD, hk] using h.2
    have := zs_set hk h0
    refine ⟨?_, fun _ => rfl⟩
    simp only
    split <;> omega
  · refine ⟨?_, fun h => h⟩
    rename_i h
    split
    · rename_i h'; rw [h'.1] at h'; cases h'.2
    · omega
theorem mkL_zs {n : Nat} {A : List Arc} (hA : InR n A) : ∀ (l : List Arc) (s : List Int × Bool), (∀ a ∈ l, a ∈ A) → s.1.length = n → zs (l.foldl mkA s).1 + (if (l.foldl mkA s).2 = true ∧ s.2 = false then 1 else 0) ≤ zs s.1
  | [], s, _, _ => by
    show zs s.1 + (if s.2 = true ∧ s.2 = false then 1 else 0) ≤ zs s.1
    rw [if_neg (fun h => by have h1 := h.1; rw [h.2] at h1; cases h1)]
    exact Nat.le_refl _
  | a :: l, s, hl, hn => by
    obtain ⟨h1, h2⟩ := mkA_zs hA s (hl a List.mem_cons_self) hn
    have h3 := mkL_zs hA l (mkA s a) (fun a' h => hl a' (List.mem_cons_of_mem _ h)) (by rw [mkA_len]; exact hn)
    rw [List.foldl_cons]
    split
    · rename_i h
      rw [h.2] at h1
      cases hq : (mkA s a).2 with
      | true => rw [hq] at h1 h3; simp at h1 h3; omega
      | false => rw [hq] at h1 h3; rw [if_pos ⟨h.1, rfl⟩] at h3; simp at h1; omega
    · split at h1 <;> split at h3 <;> omega
structure RefOK (n : Nat) (A : List Arc) (v : Nat) (b : List Int) : Prop where
  len : b.length = n
  bit : ∀ x ∈ b, x = 0 ∨ x = 1
  beg : b.getD v 0 = 1
  rch : ∀ k, b.getD k 0 = 1 → Rch A v k
theorem getD_set {b : List Int} {j k : Nat} (hj : j < b.length) : (b.set j 1).getD k 0 = if k = j then 1 else b.getD k 0 := by
  rw [List.getD_eq_getElem?_getD, List.getElem?_set]
  by_cases h : j = k
  · rw [if_pos h, if_pos hj, if_pos h.symm]; rfl
  · rw [if_neg h, if_neg (Ne.symm h), List.getD_eq_getElem?_getD]
theorem mkA_ok {n : Nat} {A : List Arc} (hA : InR n A) {v : Nat} {s : List Int × Bool} {a : Arc} (ha : a ∈ A) (h : RefOK n A v s.1) : RefOK n A v (mkA s a).1 := by
  unfold mkA
  split
  · rename_i hc
    have hk : ndN true a < s.1.length := by rw [h.len]; exact (hA.nd true ha).2
    refine ⟨by simp [h.len], fun x hx => ?_, ?_, fun k hk' => ?_⟩
    · rcases List.mem_or_eq_of_mem_set hx with h' | h'
      · exact h.bit x h'
      · exact .inr h'
    · rw [getD_set hk]
      split
      · rfl
      · exact h.beg
    · rw [getD_set hk] at hk'
      split at hk'
      · rename_i e
        rw [e]
        exact .step (h.rch _ hc.1) ha
      · exact h.rch k hk'
  · exact h
theorem mkL_ok {n : Nat} {A : List Arc} (hA : InR n A) {v : Nat} : ∀ (l : List Arc) (s : List Int × Bool), (∀ a ∈ l, a ∈ A) → RefOK n A v s.1 → RefOK n A v (l.foldl mkA s).1
  | [], _, _, h => h
  | a :: l, s, hl, h => by
    rw [List.foldl_cons]
    exact mkL_ok hA l _ (fun a' h => hl a' (List.mem_cons_of_mem _ h)) (mkA_ok hA (hl a List.mem_cons_self) h)
theorem RefOK.done {n : Nat} {A : List Arc} (hA : InR n A) {v : Nat} {b : List Int} (h : RefOK n A v b) (hc : ∀ a ∈ A, ¬ (b.getD (ndN false a) 0 = 1 ∧ b.getD (ndN true a) 0 = 0)) : b = tab n (ind A v) := by
  have h01 : ∀ k, k < n → b.getD k 0 = 0 ∨ b.getD k 0 = 1 := fun k hk => by
    have hk' : k < b.length := by rw [h.len]; exact hk
    have e : b.getD k 0 = b[k] := by simp [List.getD_eq_getElem?_getD, hk']
    rw [e]
    exact h.bit _ (List.getElem_mem hk')
  have hr : ∀ k, Rch A v k → b.getD k 0 = 1 := fun k hk => by
    induction hk with
    | refl => exact h.beg
    | step h1 h2 ih =>
      rename_i a
      rcases h01 (ndN true a) (hA.nd true h2).2 with h' | h'
      · exact absurd ⟨ih, h'⟩ (hc a h2)
      · exact h'
  rw [tab_of b, h.len]
  refine tab_ext fun k hk => ?_
  unfold ind
  split
  · rename_i h'; exact hr k h'
  · rename_i h'
    rcases h01 k hk with e | e
    · exact e
    · exact absurd (h.rch k e) h'
section
variable {n : Nat} {A : List Arc} (hA : InR n A) (hn : n ≤ 1048576) (hm : A.length ≤ 67108864)
include hA hn hm
theorem pass_eq {b : List Int} (hl : b.length = n) : lim ref10_Reach_l14_step (A, b, false, (0 : Int), ()) = some (.inl ((A.foldl mkA (b, false)).2, (A.foldl mkA (b, false)).1, ())) := by
  refine lim_up (step := ref10_Reach_l14_step) (fun i => (A, ((A.take i).foldl mkA (b, false)).1, ((A.take i).foldl mkA (b, false)).2, (i : Int), ())) A.length (fun g i hi => ?_) (fun g => ?_)
  · have hlen : ((A.take i).foldl mkA (b, false)).1.length = n := by rw [mkL_len]; exact hl
    have h1 := hA.nd false (List.getElem_mem hi)
    have h2 := hA.nd true (List.getElem_mem hi)
    have e1 : A[i].1 = (ndN false A[i] : Nat) := h1.1
    have e2 : A[i].2.1 = (ndN true A[i] : Nat) := h2.1
    rw [take_snoc hi, List.foldl_append]
    generalize hs : (A.take i).foldl mkA (b, false) = s at hlen ⊢
    unfold ref10_Reach_l14_step ref10_Reach_j83_v
    simp only [dlt hi, cond_true, inB_nat hi, ck_true, rdL_arc hi, Bool.true_or, e1, e2, inB_nat (show ndN false A[i] < s.1.length by omega), inB_nat (show ndN true A[i] < s.1.length by omega), Int.toNat_natCast, wrap_succ (show i < 9223372036854775807 by omega)]
    simp only [List.foldl_cons, List.foldl_nil, mkA]
    by_cases c1 : s.1.getD (ndN false A[i]) 0 = 1
    · have d1 : (s.1.getD (ndN false A[i]) (Ty.dflt (.int .i64)) == (1 : Int)) = true := by rw [beq_iff_eq]; exact c1
      by_cases c2 : s.1.getD (ndN true A[i]) 0 = 0
      · have d2 : (s.1.getD (ndN true A[i]) (Ty.dflt (.int .i64)) == (0 : Int)) = true := by rw [beq_iff_eq]; exact c2
        rw [d1, d2, if_pos ⟨c1, c2⟩]
        rfl
      · have d2 : (s.1.getD (ndN true A[i]) (Ty.dflt (.int .i64)) == (0 : Int)) = false := by rw [beq_eq_false_iff_ne]; exact c2
        rw [d1, d2, if_neg (fun h => c2 h.2)]
        rfl
    · have d1 : (s.1.getD (ndN false A[i]) (Ty.dflt (.int .i64)) == (1 : Int)) = false := by rw [beq_eq_false_iff_ne]; exact c1
      rw [d1, if_neg (fun h => c1 h.1)]
      rfl
  · unfold ref10_Reach_l14_step
    simp only [dge (Nat.lt_irrefl _), cond_false, List.take_length]
theorem refl_loop {v : Nat} {b : List Int} (h : RefOK n A v b) : lim ref10_Reach_l8_step (A, b, true, ()) = some (.inl (tab n (ind A v), ())) := by
  have hex := lim_ex (step := ref10_Reach_l8_step) (x := (A, b, true, ())) (fun x => ∃ b m, x = (A, b, m, ()) ∧ RefOK n A v b ∧ (m = false → ∀ a ∈ A, ¬ (b.getD (ndN false a) 0 = 1 ∧ b.getD (ndN true a) 0 = 0))) (fun x => 2 * zs x.2.1 + (if x.2.2.1 = true then 1 else 0)) (fun y => y = .inl (tab n (ind A v), ())) (fun x hx => ?_) ⟨b, true, rfl, h, fun e => by cases e⟩
  · obtain ⟨y, hy, hl⟩ := hex
    exact hl.trans (by rw [hy])
  · obtain ⟨b, m, rfl, h, hc⟩ := hx
    cases m with
    | false =>
      left
      refine ⟨_, rfl, fun g => ?_⟩
      unfold ref10_Reach_l8_step
      simp only [cond_false]
      rw [← h.done hA (hc rfl)]
    | true =>
      right
      refine ⟨(A, (A.foldl mkA (b, false)).1, (A.foldl mkA (b, false)).2, ()), ⟨_, _, rfl, mkL_ok hA A (b, false) (fun _ h => h) h, fun e => ?_⟩, ?_, fun g => ?_⟩
      · obtain ⟨_, h2, h3⟩ := mkL_same A (b, false) e
        rw [h2]
        exact h3
      · have := mkL_zs hA A (b, false) (fun _ h => h) h.len
        simp only [if_true, and_true] at this ⊢
        split at this <;> split <;> simp_all <;> omega
      · unfold ref10_Reach_l8_step
        simp only [cond_true]
        rw [pass_eq hA hn hm h.len]
        simp only [Option.bind_some, out1_inl]
theorem rReach_eq {v : Nat} (hv : v < n) : ref10_Reach ((n : Int), A, (v : Int), ()) = some (tab n (ind A v), ()) := by
  have hb := begin_good hA hn hm hv
  unfold ref10_Reach
  simp only [Int.toNat_natCast]
  rw [show (decide ((0 : Int) ≤ (n : Int)) && decide ((n : Int) ≤ (n : Int)) && decide ((n : Int) * ((10 : Nat) : Int) ≤ 35184372088832)) = true from by simp; omega, ck_true, inB_nat (by simpa using hv), ck_true, refl_loop hA hn hm ⟨hb.len, hb.bit, hb.beg, hb.rch⟩]
  rfl
end

/-! ### Check, arcs -/
theorem Check_loop (n : Int) (A : List Arc) (hl : A.length ≤ 67108864) : lim ref10_Check_l12_step (n, A, (0 : Int), ()) = some (if A.any (badArc n) then .inl ((7 : Int), ()) else .inr (.inl ())) := by
  have hstep : ∀ g i, (hi : i < A.length) → ref10_Check_l12_step g (n, A, (i : Int), ()) = bif badArc n A[i] then some (.inl ((7 : Int), ())) else g (n, A, ((i + 1 : Nat) : Int), ()) := fun g i hi => by
    unfold ref10_Check_l12_step
    simp only [dlt hi, cond_true, inB_nat hi, ck_true, rdL_arc hi, Bool.true_or, cond_or, wrap_succ (show i < 9223372036854775807 by omega)]
    rfl
  refine lim_up (step := ref10_Check_l12_step) (fun i => (n, A, (i : Int), ())) (A.findIdx (badArc n)) (fun g i hi => ?_) (fun g => ?_)
  · have hil : i < A.length := Nat.lt_of_lt_of_le hi List.findIdx_le_length
    rw [hstep g i hil, findIdx_not hi hil]
    rfl
  · by_cases hex : A.any (badArc n) = true
    · have hil : A.findIdx (badArc n) < A.length := List.findIdx_lt_length_of_exists (by
        obtain ⟨a, h1, h2⟩ := List.any_eq_true.1 hex
        exact ⟨a, h1, h2⟩)
      have hb : badArc n A[A.findIdx (badArc n)] = true := List.findIdx_getElem (w := hil)
      rw [hstep g _ hil, hb, if_pos hex]
      rfl
    · have : A.findIdx (badArc n) = A.length := by
        rw [List.findIdx_eq_length]
        intro a ha
        cases h : badArc n a with
        | false => rfl
        | true => exact absurd (List.any_eq_true.2 ⟨a, ha, h⟩) hex
      unfold ref10_Check_l12_step
      rw [this, if_neg hex]
      simp only [dge (Nat.lt_irrefl _), cond_false]
/-- May it be a graph? -/
def graphB (n : Int) (A : List Arc) : Bool := decide (0 ≤ n) && !(A.any (badArc n))
theorem rCheck_eq {n : Int} {A : List Arc} (hn : n ≤ 1048576) (hl : A.length ≤ 67108864) : ∃ e : Int, ref10_Check (n, A, ()) = some (e, ()) ∧ (e != 0) = !(graphB n A) := by
  unfold ref10_Check graphB
  simp only
  rw [Check_loop n A hl, show decide (n > 1048576) = false from by simp; omega, show decide ((A.length : Int) > 67108864) = false from by simp; omega]
  by_cases h0 : n < 0
  · refine ⟨2, ?_, ?_⟩
    · simp [h0]
    · simp [show ¬ (0 ≤ n) by omega]
  · rw [show decide (n < 0) = false from by simp; omega]
    cases hb : A.any (badArc n) with
    | true => exact ⟨7, rfl, by simp⟩
    | false => exact ⟨0, rfl, by simp; omega⟩
def arcOf (e : V_api_Edge) : Arc := (e.1, e.2.1, ())
theorem Arcs_eq {l : List V_api_Edge} (hl : l.length ≤ 67108864) : ref27_Arcs (l, ()) = some (l.map arcOf, ()) := by
  have : lim ref27_Arcs_l6_step (l, ([] : List V_easementref08_Pair), (0 : Int), ()) = some (.inl (l.map arcOf, ())) := by
    refine lim_up (step := ref27_Arcs_l6_step) (fun i => (l, (l.take i).map arcOf, (i : Int), ())) l.length (fun g i hi => ?_) (fun g => ?_)
    · unfold ref27_Arcs_l6_step
      simp only [dlt hi, cond_true, inB_nat hi, ck_true, rdL_nat t_api_Edge l hi]
      rw [roomB_ok (by simp; omega), ck_true, wrap_succ (by omega), take_snoc hi, List.map_append]
      rfl
    · unfold ref27_Arcs_l6_step
      simp only [dge (Nat.lt_irrefl _), cond_false, List.take_length]
  unfold ref27_Arcs
  simp only
  rw [this]
  rfl
theorem consGraph_eq {b : V_api_Body} {l : List V_api_Edge} (hl : l.length ≤ 67108864) (hn : b.2.1 ≤ 1048576) : cons_Graph (b, l, ()) = some ((if graphB b.2.1 (l.map arcOf) then some (gr b.2.1.toNat (l.map arcOf)) else none), ()) := by
  have : lim cons_Graph_l6_step (([] : List V_easementref08_Pair), l, (l.length : Int), (0 : Int), ()) = some (.inl (l.map arcOf, ())) := by
    refine lim_up (step := cons_Graph_l6_step) (fun i => ((l.take i).map arcOf, l, (l.length : Int), (i : Int), ())) l.length (fun g i hi => ?_) (fun g => ?_)
    · unfold cons_Graph_l6_step
      simp only [dlt hi, cond_true, inB_nat hi, ck_true, rdL_nat t_api_Edge l hi]
      rw [roomB_ok (by simp; omega), ck_true, wrap_succ (by omega), take_snoc hi, List.map_append]
      rfl
    · unfold cons_Graph_l6_step
      simp only [dge (Nat.lt_irrefl _), cond_false, List.take_length]
  unfold cons_Graph
  simp only
  rw [this]
  simp only [Option.bind_some, out1_inl]
  unfold graphB
  by_cases h0 : b.2.1 < 0
  · rw [New_neg h0, show decide (0 ≤ b.2.1) = false from by simp; omega]
    rfl
  · cases hb : (l.map arcOf).any (badArc b.2.1) with
    | true =>
      rw [New_bad (by omega) hn (by simpa using hl) hb]
      simp
    | false =>
      obtain ⟨n, hn'⟩ : ∃ n : Nat, b.2.1 = n := ⟨b.2.1.toNat, by omega⟩
      rw [hn'] at hb ⊢
      rw [New_eq (inR_of hb) (by omega) (by simpa using hl)]
      simp

/-! ### The lists -/
theorem range_lt {p : Nat → Bool} (m : Nat) : ∀ n : Nat, ((List.range n).filter fun s => decide (s < m) && p s) = (List.range (min m n)).filter p
  | 0 => by simp
  | n + 1 => by
    rw [List.range_succ, List.filter_append, range_lt m n]
    by_cases h : n < m
    · rw [show min m (n + 1) = n + 1 from by omega, show min m n = n from by omega, List.range_succ, List.filter_append]
      congr 1
      simp [List.filter_cons, h]
    · rw [show min m (n + 1) = m from by omega, show min m n = m from by omega]
      simp [List.filter_cons, h]
/-- A universal region's own part. -/
noncomputable def rowU (A : List Arc) (K u : Nat) : List Arc := ((List.range K).filter fun s => (s != u) && (ind A u s == 1)).map fun (s : Nat) => ((u : Int), (s : Int), ())
noncomputable def outU (A : List Arc) (K i : Nat) : List Arc := (List.range i).flatMap (rowU A K)
theorem rowU_len (A : List Arc) (K u : Nat) : (rowU A K u).length ≤ K := by
  unfold rowU
  rw [List.length_map]
  exact Nat.le_trans (List.length_filter_le _ _) (by simp)
theorem outU_len (A : List Arc) (K : Nat) : ∀ i : Nat, (outU A K i).length ≤ i * K
  | 0 => by simp [outU]
  | i + 1 => by
    have h1 := outU_len A K i
    have h2 := rowU_len A K i
    unfold outU at h1 ⊢
    rw [List.range_succ, List.flatMap_append, List.length_append]
    simp only [List.flatMap_cons, List.flatMap_nil, List.append_nil]
    rw [Nat.succ_mul]
    omega
theorem outU_succ (A : List Arc) (K i : Nat) : outU A K (i + 1) = outU A K i ++ rowU A K i := by
  unfold outU
  rw [List.range_succ, List.flatMap_append]
  simp
section
variable {n : Nat} {A : List Arc} (hA : InR n A) (hn : n ≤ 20) (hm : A.length ≤ 80)
include hA hn hm
theorem mreach_loop (K : Nat) (hK : K ≤ n) : lim model_reach_l12_step (some (gr n A), ([] : List (List Int)), (K : Int), (0 : Int), ()) = some (.inl ((List.range K).map fun u => ofN (rl n A u), ())) := by
  refine lim_up (step := model_reach_l12_step) (fun i => (some (gr n A), (List.range i).map fun u => ofN (rl n A u), (K : Int), (i : Int), ())) K (fun g i hi => ?_) (fun g => ?_)
  · unfold model_reach_l12_step
    simp only [dlt hi, cond_true, Reach_eq hA (by omega) (by omega) (show i < n by omega), Option.bind_some]
    rw [roomB_ok (by simp; omega), ck_true, wrap_succ (by omega), List.range_succ, List.map_append]
    rfl
  · unfold model_reach_l12_step
    simp only [dge (Nat.lt_irrefl _), cond_false]
omit hA hm in
theorem mrow_eq (b : V_api_Body) (hb : b.1 ≤ 20) {u : Nat} (hu : u < min b.1.toNat n) (out : List Arc) (ho : out.length ≤ 400) :
    lim model_Outlives_l14_step (b, out, (u : Int), ofN (rl n A u), ((ofN (rl n A u)).length : Int), (0 : Int), ()) = some (.inl (out ++ rowU A (min b.1.toNat n) u, b, ())) := by
  have hlen : (ofN (rl n A u)).length ≤ 20 := by
    unfold ofN rl
    rw [List.length_map]
    exact Nat.le_trans (List.length_filter_le _ _) (by simpa using hn)
  have hfin : rowU A (min b.1.toNat n) u = ((ofN (rl n A u)).filter fun r => decide (r < b.1) && (r != (u : Int))).map fun r => ((u : Int), r, ()) := by
    unfold rowU ofN rl
    rw [List.filter_map, List.map_map, List.filter_filter, ← range_lt b.1.toNat n]
    have e : (fun (s : Nat) => ((u : Int), (s : Int), ())) = ((fun r => ((u : Int), r, ())) ∘ fun (j : Nat) => (j : Int)) := rfl
    rw [e]
    congr 1
    refine List.filter_congr fun s _ => ?_
    simp only [Function.comp]
    have h1 : decide ((s : Int) < b.1) = decide (s < b.1.toNat) := by
      by_cases h : s < b.1.toNat
      · rw [decide_eq_true h, decide_eq_true (by omega)]
      · rw [decide_eq_false h, decide_eq_false (by omega)]
    have h2 : ((s : Int) != (u : Int)) = (s != u) := by
      by_cases h : s = u
      · simp [h]
      · rw [bne, bne, beq_eq_false_iff_ne.2 h, beq_eq_false_iff_ne.2 (by omega)]
    rw [h1, h2]
    cases decide (s < b.1.toNat) <;> cases (s != u) <;> cases (ind A u s == 1) <;> rfl
  rw [hfin]
  refine lim_up (step := model_Outlives_l14_step) (fun i => (b, out ++ (((ofN (rl n A u)).take i).filter fun r => decide (r < b.1) && (r != (u : Int))).map fun r => ((u : Int), r, ()), (u : Int), ofN (rl n A u), ((ofN (rl n A u)).length : Int), (i : Int), ())) (ofN (rl n A u)).length (fun g i hi => ?_) (fun g => ?_) |> fun h => by simpa using h
  · have hl2 : ((((ofN (rl n A u)).take i).filter fun r => decide (r < b.1) && (r != (u : Int))).map fun r => ((u : Int), r, ())).length ≤ 20 := by
      rw [List.length_map]
      exact Nat.le_trans (List.length_filter_le _ _) (by simp; omega)
    unfold model_Outlives_l14_step model_Outlives_j79_v
    simp only [dlt hi, cond_true, inB_nat hi, ck_true, rdL_nat (.int .i64) _ hi, wrap_succ (show i < 9223372036854775807 by omega), cond_and]
    rw [take_snoc hi, List.filter_append, List.map_append]
    cases hc : decide ((ofN (rl n A u))[i] < b.1) && ((ofN (rl n A u))[i] != (u : Int)) with
    | true =>
      rw [cond_true, roomB_ok (by simp only [List.length_append, List.length_singleton]; omega), ck_true]
      simp only [Option.bind_some, out1_inl, List.filter_cons, hc, if_true, List.filter_nil, List.map_cons, List.map_nil, List.append_assoc]
    | false =>
      rw [cond_false]
      simp only [Option.bind_some, out1_inl, List.filter_cons, hc, Bool.false_eq_true, if_false, List.filter_nil, List.map_nil, List.append_nil]
  · unfold model_Outlives_l14_step
    simp only [dge (Nat.lt_irrefl _), cond_false, List.take_length]
omit hA hm in
theorem mout_loop (b : V_api_Body) (hb : b.1 ≤ 20) : lim model_Outlives_l8_step (b, ([] : List V_easementref08_Pair), (List.range (min b.1.toNat n)).map (fun u => ofN (rl n A u)), (((List.range (min b.1.toNat n)).map (fun u => ofN (rl n A u))).length : Int), (0 : Int), ()) = some (.inl (outU A (min b.1.toNat n) (min b.1.toNat n), b, ())) := by
  have hlen : ((List.range (min b.1.toNat n)).map (fun u => ofN (rl n A u))).length = min b.1.toNat n := by simp
  rw [hlen]
  refine lim_up (step := model_Outlives_l8_step) (fun i => (b, outU A (min b.1.toNat n) i, (List.range (min b.1.toNat n)).map (fun u => ofN (rl n A u)), ((min b.1.toNat n : Nat) : Int), (i : Int), ())) (min b.1.toNat n) (fun g i hi => ?_) (fun g => ?_)
  · have ho := outU_len A (min b.1.toNat n) i
    have ho2 : i * min b.1.toNat n ≤ 20 * 20 := Nat.mul_le_mul (by omega) (by omega)
    have hg : rdL (.lst (.int .i64)) ((List.range (min b.1.toNat n)).map (fun u => ofN (rl n A u))) (i : Int) = ofN (rl n A i) := by
      rw [rdL_nat (.lst (.int .i64)) _ (by simpa using hi)]
      simp
    unfold model_Outlives_l8_step
    simp only [dlt hi, cond_true, hlen, inB_nat hi, ck_true, hg]
    have := mrow_eq hn (A := A) b hb hi (outU A (min b.1.toNat n) i) (by omega)
    obtain ⟨b1, b2, b3, b4, b5, b6, b7, b8⟩ := b
    simp only at this ⊢
    rw [this]
    simp only [Option.bind_some, out1_inl]
    rw [wrap_succ (by omega), outU_succ]
  · unfold model_Outlives_l8_step
    simp only [dge (Nat.lt_irrefl _), cond_false]
end
theorem mOutlives_eq (b : V_api_Body) (l : List V_api_Edge) (h1 : b.1 ≤ 20) (h2 : b.2.1 ≤ 20) (h3 : l.length ≤ 80) :
    model_Outlives (b, l, ()) = some ((if graphB b.2.1 (l.map arcOf) then outU (l.map arcOf) (min b.1.toNat b.2.1.toNat) (min b.1.toNat b.2.1.toNat) else []), ()) := by
  obtain ⟨b1, b2, b3, b4, b5, b6, b7, b8⟩ := b
  simp only at h1 h2
  unfold model_Outlives model_reach
  simp only
  rw [consGraph_eq (by omega) (by simp only; omega)]
  simp only [Option.bind_some]
  cases hg : graphB b2 (l.map arcOf) with
  | false =>
    simp only [Bool.false_eq_true, if_false, Option.isNone_none, cond_true, Option.bind_some, List.length_nil]
    have := mout_loop (n := 0) (A := []) (by omega) (b1, b2, b3, b4, b5, b6, b7, b8) h1
    simp at this
    have e : lim model_Outlives_l8_step ((b1, b2, b3, b4, b5, b6, b7, b8), ([] : List V_easementref08_Pair), ([] : List (List Int)), ((0 : Nat) : Int), (0 : Int), ()) = some (.inl ([], (b1, b2, b3, b4, b5, b6, b7, b8), ())) := by
      refine lim_up (step := model_Outlives_l8_step) (fun i => ((b1, b2, b3, b4, b5, b6, b7, b8), ([] : List V_easementref08_Pair), ([] : List (List Int)), ((0 : Nat) : Int), (i : Int), ())) 0 (fun g i hi => by omega) (fun g => ?_)
      unfold model_Outlives_l8_step
      simp only [dge (Nat.lt_irrefl _), cond_false]
    have e2 := e
    simp only [Int.natCast_zero] at e2 ⊢
    first
      | rw [e2]; rfl
      | (erw [e2]; rfl)
  | true =>
    obtain ⟨n, rfl⟩ : ∃ n : Nat, b2 = n := ⟨b2.toNat, by unfold graphB at hg; simp at hg; omega⟩
    have hA : InR n (l.map arcOf) := inR_of (by unfold graphB at hg; simp at hg; simpa using hg)
    simp only [if_true, Option.isNone_some, cond_false, Int.toNat_natCast, Nodes_some, Option.bind_some, show (gr n (l.map arcOf)).1 = (n : Int) from rfl]
    have hk : maxI (0 : Int) (minI b1 (n : Int)) = ((min b1.toNat n : Nat) : Int) := by
      unfold maxI minI
      split <;> split <;> omega
    rw [hk, mreach_loop hA (by omega) (by simpa using h3) _ (by omega)]
    simp only [Option.bind_some, out1_inl]
    have := mout_loop (n := n) (A := l.map arcOf) (by omega) (b1, (n : Int), b3, b4, b5, b6, b7, b8) h1
    simp only at this
    first
      | rw [this]; rfl
      | (erw [this]; rfl)

/-! ### The reference's lists -/
section
variable {n : Nat} {A : List Arc} (hA : InR n A) (hn : n ≤ 20) (hm : A.length ≤ 80)
include hn
omit hn in
theorem min_lt {u : Nat} {b1 : Int} : (decide ((u : Int) < b1) && decide ((u : Int) < (n : Int))) = decide (u < min b1.toNat n) := by
  by_cases h : u < min b1.toNat n
  · rw [decide_eq_true h, decide_eq_true (by omega), decide_eq_true (by omega)]; rfl
  · rw [decide_eq_false h]
    by_cases h2 : (u : Int) < b1
    · rw [decide_eq_true h2, decide_eq_false (by omega)]; rfl
    · rw [decide_eq_false h2]; rfl
theorem rrow_eq (b : V_api_Body) (hbn : b.2.1 = (n : Int)) {u : Nat} (hu : u < min b.1.toNat n) (out : List Arc) (ho : out.length ≤ 400) :
    lim ref30_Outlives_l20_step (b, out, (u : Int), tab n (ind A u), (0 : Int), ()) = some (.inl (out ++ rowU A (min b.1.toNat n) u, b, ())) := by
  obtain ⟨b1, b2, b3, b4, b5, b6, b7, b8⟩ := b
  simp only at hbn hu ⊢
  subst hbn
  refine lim_up (step := ref30_Outlives_l20_step) (fun i => ((b1, (n : Int), b3, b4, b5, b6, b7, b8), out ++ ((List.range i).filter fun s => (s != u) && (ind A u s == 1)).map fun (s : Nat) => ((u : Int), (s : Int), ()), (u : Int), tab n (ind A u), (i : Int), ())) (min b1.toNat n) (fun g i hi => ?_) (fun g => ?_) |> fun h => by simpa using h
  · have hl2 : (((List.range i).filter fun s => (s != u) && (ind A u s == 1)).map fun (s : Nat) => ((u : Int), (s : Int), ())).length ≤ 20 := by
      rw [List.length_map]
      exact Nat.le_trans (List.length_filter_le _ _) (by simp; omega)
    unfold ref30_Outlives_l20_step ref30_Outlives_j115_v
    have hne : ((i : Int) != (u : Int)) = (i != u) := by
      by_cases h : i = u
      · simp [h]
      · rw [bne, bne, beq_eq_false_iff_ne.2 h, beq_eq_false_iff_ne.2 (by omega)]
    simp only [cond_and, min_lt, decide_eq_true hi, cond_true, inB_nat (show i < (tab n (ind A u)).length by simp; omega), Bool.true_or, ck_true, rdL_tab (show i < n by omega), wrap_succ (show i < 9223372036854775807 by omega), hne]
    rw [List.range_succ, List.filter_append, List.map_append]
    cases hc : (i != u) && (ind A u i == 1) with
    | true =>
      rw [cond_true, roomB_ok (by simp only [List.length_append, List.length_singleton]; omega), ck_true]
      simp only [Option.bind_some, out1_inl, List.filter_cons, hc, if_true, List.filter_nil, List.map_cons, List.map_nil, List.append_assoc]
    | false =>
      rw [cond_false]
      simp only [Option.bind_some, out1_inl, List.filter_cons, hc, Bool.false_eq_true, if_false, List.filter_nil, List.map_nil, List.append_nil]
  · unfold ref30_Outlives_l20_step
    simp only [cond_and, min_lt, decide_eq_false (Nat.lt_irrefl _), cond_false]
    rfl
include hA hm
theorem rout_loop (b : V_api_Body) (hbn : b.2.1 = (n : Int)) : lim ref30_Outlives_l12_step (b, ([] : List V_easementref08_Pair), A, (0 : Int), ()) = some (.inl (outU A (min b.1.toNat n) (min b.1.toNat n), b, ())) := by
  obtain ⟨b1, b2, b3, b4, b5, b6, b7, b8⟩ := b
  simp only at hbn ⊢
  subst hbn
  refine lim_up (step := ref30_Outlives_l12_step) (fun i => ((b1, (n : Int), b3, b4, b5, b6, b7, b8), outU A (min b1.toNat n) i, A, (i : Int), ())) (min b1.toNat n) (fun g i hi => ?_) (fun g => ?_)
  · have ho := outU_len A (min b1.toNat n) i
    have ho2 : i * min b1.toNat n ≤ 20 * 20 := Nat.mul_le_mul (by omega) (by omega)
    have := rrow_eq (A := A) hn (b1, (n : Int), b3, b4, b5, b6, b7, b8) rfl (u := i) hi (outU A (min b1.toNat n) i) (by omega)
    unfold ref30_Outlives_l12_step
    simp only [cond_and, min_lt, decide_eq_true hi, cond_true, rReach_eq hA (by omega) (by omega) (show i < n by omega), Option.bind_some]
    simp only at this
    rw [this]
    simp only [Option.bind_some, out1_inl]
    rw [wrap_succ (by omega), outU_succ]
  · unfold ref30_Outlives_l12_step
    simp only [cond_and, min_lt, decide_eq_false (Nat.lt_irrefl _), cond_false]
end
theorem rOutlives_eq (b : V_api_Body) (l : List V_api_Edge) (h2 : b.2.1 ≤ 20) (h3 : l.length ≤ 80) :
    ref30_Outlives (b, l, ()) = some ((if graphB b.2.1 (l.map arcOf) then outU (l.map arcOf) (min b.1.toNat b.2.1.toNat) (min b.1.toNat b.2.1.toNat) else []), ()) := by
  obtain ⟨b1, b2, b3, b4, b5, b6, b7, b8⟩ := b
  simp only at h2
  obtain ⟨e, he, hb⟩ := rCheck_eq (n := b2) (A := l.map arcOf) (by omega) (by simp; omega)
  unfold ref30_Outlives
  simp only [Arcs_eq (show l.length ≤ 67108864 by omega), Option.bind_some, he, hb]
  cases hg : graphB b2 (l.map arcOf) with
  | false => rfl
  | true =>
    obtain ⟨n, rfl⟩ : ∃ n : Nat, b2 = n := ⟨b2.toNat, by unfold graphB at hg; simp at hg; omega⟩
    have hA : InR n (l.map arcOf) := inR_of (by unfold graphB at hg; simp at hg; simpa using hg)
    simp only [if_true, Bool.not_true, cond_false, Int.toNat_natCast]
    have := rout_loop (n := n) (A := l.map arcOf) hA (by omega) (by simpa using h3) (b1, (n : Int), b3, b4, b5, b6, b7, b8) rfl
    simp only at this
    rw [this]
    rfl

/-! ### Loose -/
/-- Named by none. -/
def looseL (n : Nat) (l : List V_api_Edge) : List Int := ofN ((List.range n).filter fun r => !(l.any fun e => (e.1 == (r : Int)) || (e.2.1 == (r : Int))))
theorem looseL_len {n : Nat} (l : List V_api_Edge) : (looseL n l).length ≤ n := by
  unfold looseL ofN
  rw [List.length_map]
  exact Nat.le_trans (List.length_filter_le _ _) (by simp)
theorem cn_zero {b : Bool} {n : Nat} {l : List V_api_Edge} (hA : InR n (l.map arcOf)) (r : Nat) : (cn b (l.map arcOf) r == 0) = !(l.any fun e => nd b (arcOf e) == (r : Int)) := by
  rw [Bool.eq_iff_iff]
  simp only [beq_iff_eq, Bool.not_eq_true', List.any_eq_false]
  unfold cn
  rw [List.countP_eq_zero]
  constructor
  · intro h e he
    have := h (arcOf e) (List.mem_map_of_mem he)
    have h2 := hA.nd b (List.mem_map_of_mem he)
    simp only [beq_iff_eq] at this ⊢
    omega
  · intro h a ha
    obtain ⟨e, he, rfl⟩ := List.mem_map.1 ha
    have := h e he
    have h2 := hA.nd b (List.mem_map_of_mem (f := arcOf) he)
    simp only [beq_iff_eq] at this ⊢
    omega
theorem any_split {α : Type} {p q : α → Bool} : ∀ l : List α, (l.any fun e => p e || q e) = (l.any p || l.any q)
  | [] => rfl
  | a :: l => by
    simp only [List.any_cons, any_split l]
    cases p a <;> cases q a <;> cases l.any p <;> cases l.any q <;> rfl
theorem looseL_succ {n : Nat} {l : List V_api_Edge} (hA : InR n (l.map arcOf)) (i : Nat) : looseL (i + 1) l = looseL i l ++ (if (cn false (l.map arcOf) i == 0 && cn true (l.map arcOf) i == 0) = true then [(i : Int)] else []) := by
  unfold looseL ofN
  rw [List.range_succ, List.filter_append, List.map_append, cn_zero hA, cn_zero hA]
  congr 1
  simp only [List.filter_cons, List.filter_nil, any_split]
  have e1 : (l.any fun e => nd false (arcOf e) == (i : Int)) = l.any fun e => e.1 == (i : Int) := rfl
  have e2 : (l.any fun e => nd true (arcOf e) == (i : Int)) = l.any fun e => e.2.1 == (i : Int) := rfl
  rw [e1, e2]
  cases (l.any fun e => e.1 == (i : Int)) <;> cases (l.any fun e => e.2.1 == (i : Int)) <;> rfl
section
variable {n : Nat} {l : List V_api_Edge} (hA : InR n (l.map arcOf)) (hn : n ≤ 20) (hm : l.length ≤ 80)
include hA hn hm
theorem mloose_loop : lim model_Loose_l8_step (some (gr n (l.map arcOf)), ([] : List Int), (n : Int), (0 : Int), ()) = some (.inl (looseL n l, ())) := by
  refine lim_up (step := model_Loose_l8_step) (fun i => (some (gr n (l.map arcOf)), looseL i l, (n : Int), (i : Int), ())) n (fun g i hi => ?_) (fun g => ?_)
  · have hl := looseL_len (n := i) l
    have hlen : ∀ b, ((ofN (sel b (l.map arcOf) i)).length : Int) = ((cn b (l.map arcOf) i : Nat) : Int) := fun b => by
      unfold ofN
      rw [List.length_map, sel_len]
    unfold model_Loose_l8_step model_Loose_j63_v
    simp only [dlt hi, cond_true, Out_eq hA (by omega) (by simp; omega) hi, In_eq hA (by omega) (by simp; omega) hi, Option.bind_some, hlen]
    rw [looseL_succ hA, wrap_succ (by omega)]
    cases h1 : cn false (l.map arcOf) i with
    | zero =>
      cases h2 : cn true (l.map arcOf) i with
      | zero =>
        rw [roomB_ok (by simp only [List.length_append, List.length_singleton]; omega)]
        rfl
      | succ k =>
        rw [show (((k + 1 : Nat) : Int) == (0 : Int)) = false from by rw [beq_eq_false_iff_ne]; omega]
        simp
    | succ k =>
      rw [show (((k + 1 : Nat) : Int) == (0 : Int)) = false from by rw [beq_eq_false_iff_ne]; omega]
      simp
  · unfold model_Loose_l8_step
    simp only [dge (Nat.lt_irrefl _), cond_false]
end
theorem mLoose_eq (b : V_api_Body) (l : List V_api_Edge) (h1 : b.1 ≤ 20) (h2 : b.2.1 ≤ 20) (h3 : l.length ≤ 80) :
    model_Loose (b, l, ()) = some ((if graphB b.2.1 (l.map arcOf) then looseL b.2.1.toNat l else []), ()) := by
  obtain ⟨b1, b2, b3, b4, b5, b6, b7, b8⟩ := b
  simp only at h1 h2
  unfold model_Loose model_reach
  simp only
  rw [consGraph_eq (by omega) (by simp only; omega)]
  simp only [Option.bind_some]
  cases hg : graphB b2 (l.map arcOf) with
  | false =>
    simp only [Bool.false_eq_true, if_false, Option.isNone_none, cond_true, Option.bind_some, Nodes_none]
    have e : lim model_Loose_l8_step (none, ([] : List Int), (0 : Int), (0 : Int), ()) = some (.inl ([], ())) := by
      refine lim_up (step := model_Loose_l8_step) (fun i => (none, ([] : List Int), (0 : Int), (i : Int), ())) 0 (fun g i hi => by omega) (fun g => ?_)
      unfold model_Loose_l8_step
      rfl
    rw [e]
    rfl
  | true =>
    obtain ⟨n, rfl⟩ : ∃ n : Nat, b2 = n := ⟨b2.toNat, by unfold graphB at hg; simp at hg; omega⟩
    have hA : InR n (l.map arcOf) := inR_of (by unfold graphB at hg; simp at hg; simpa using hg)
    simp only [if_true, Option.isNone_some, cond_false, Int.toNat_natCast, Nodes_some, Option.bind_some, show (gr n (l.map arcOf)).1 = (n : Int) from rfl]
    have hk : maxI (0 : Int) (minI b1 (n : Int)) = ((min b1.toNat n : Nat) : Int) := by
      unfold maxI minI
      split <;> split <;> omega
    rw [hk, mreach_loop hA (by omega) (by simpa using h3) _ (by omega)]
    simp only [Option.bind_some, out1_inl, Nodes_some, show (gr n (l.map arcOf)).1 = (n : Int) from rfl]
    rw [mloose_loop hA (by omega) h3]
    rfl
theorem named_loop {l : List V_api_Edge} (h3 : l.length ≤ 80) (r : Nat) : lim ref30_Loose_l18_step (l, (r : Int), false, (0 : Int), ()) = some (.inl ((l.any fun e => (e.1 == (r : Int)) || (e.2.1 == (r : Int))), ())) := by
  refine lim_up (step := ref30_Loose_l18_step) (fun i => (l, (r : Int), ((l.take i).any fun e => (e.1 == (r : Int)) || (e.2.1 == (r : Int))), (i : Int), ())) l.length (fun g i hi => ?_) (fun g => ?_)
  · unfold ref30_Loose_l18_step
    simp only [dlt hi, cond_true, inB_nat hi, Bool.true_or, ck_true, rdL_nat t_api_Edge l hi, cond_or, wrap_succ (show i < 9223372036854775807 by omega)]
    rw [take_snoc hi, List.any_append]
    simp only [List.any_cons, List.any_nil, Bool.or_false, Bool.or_assoc]
  · unfold ref30_Loose_l18_step
    simp only [dge (Nat.lt_irrefl _), cond_false, List.take_length]
theorem rLoose_eq (b : V_api_Body) (l : List V_api_Edge) (h2 : b.2.1 ≤ 20) (h3 : l.length ≤ 80) :
    ref30_Loose (b, l, ()) = some ((if graphB b.2.1 (l.map arcOf) then looseL b.2.1.toNat l else []), ()) := by
  obtain ⟨b1, b2, b3, b4, b5, b6, b7, b8⟩ := b
  simp only at h2
  obtain ⟨e, he, hb⟩ := rCheck_eq (n := b2) (A := l.map arcOf) (by omega) (by simp; omega)
  unfold ref30_Loose
  simp only [Arcs_eq (show l.length ≤ 67108864 by omega), Option.bind_some, he, hb]
  cases hg : graphB b2 (l.map arcOf) with
  | false => rfl
  | true =>
    obtain ⟨n, rfl⟩ : ∃ n : Nat, b2 = n := ⟨b2.toNat, by unfold graphB at hg; simp at hg; omega⟩
    simp only [if_true, Bool.not_true, cond_false, Int.toNat_natCast]
    have : lim ref30_Loose_l10_step ((b1, (n : Int), b3, b4, b5, b6, b7, b8), l, ([] : List Int), (0 : Int), ()) = some (.inl (looseL n l, (b1, (n : Int), b3, b4, b5, b6, b7, b8), ())) := by
      refine lim_up (step := ref30_Loose_l10_step) (fun i => ((b1, (n : Int), b3, b4, b5, b6, b7, b8), l, looseL i l, (i : Int), ())) n (fun g i hi => ?_) (fun g => ?_)
      · have hl := looseL_len (n := i) l
        unfold ref30_Loose_l10_step ref30_Loose_j99_v
        simp only [dlt hi, cond_true, named_loop h3, Option.bind_some, out1_inl]
        rw [wrap_succ (by omega), show looseL (i + 1) l = looseL i l ++ (if (l.any fun e => (e.1 == (i : Int)) || (e.2.1 == (i : Int))) = true then [] else [(i : Int)]) from by
          unfold looseL ofN
          rw [List.range_succ, List.filter_append, List.map_append]
          congr 1
          simp only [List.filter_cons, List.filter_nil]
          cases (l.any fun e => (e.1 == (i : Int)) || (e.2.1 == (i : Int))) <;> rfl]
        cases hc : (l.any fun e => (e.1 == (i : Int)) || (e.2.1 == (i : Int))) with
        | true => simp
        | false =>
          rw [roomB_ok (by simp only [List.length_append, List.length_singleton]; omega)]
          simp
      · unfold ref30_Loose_l10_step
        simp only [dge (Nat.lt_irrefl _), cond_false]
    rw [this]
    rfl

/-! ### The law -/
theorem Bounds_refl {l : List Arc} (hl : l.length ≤ 67108864) : ref17_Bounds (l, l, ()) = some (true, ()) := by
  have : lim ref17_Bounds_l8_step (l, l, (0 : Int), ()) = some (.inr (.inl ())) := by
    refine lim_up (step := ref17_Bounds_l8_step) (fun i => (l, l, (i : Int), ())) l.length (fun g i hi => ?_) (fun g => ?_)
    · unfold ref17_Bounds_l8_step
      simp only [dlt hi, cond_true, inB_nat hi, ck_true, beq_self_eq_true, Bool.and_true, Bool.not_true, cond_false, wrap_succ (show i < 9223372036854775807 by omega)]
    · unfold ref17_Bounds_l8_step
      simp only [dge (Nat.lt_irrefl _), cond_false]
  unfold ref17_Bounds
  simp only [bne_self_eq_false, cond_false]
  rw [this]
  rfl
theorem Same_refl {l : List Int} (hl : l.length ≤ 67108864) : ref01_Same (l, l, ()) = some (true, ()) := by
  have : lim ref01_Same_l8_step (l, l, (0 : Int), ()) = some (.inr (.inl ())) := by
    refine lim_up (step := ref01_Same_l8_step) (fun i => (l, l, (i : Int), ())) l.length (fun g i hi => ?_) (fun g => ?_)
    · unfold ref01_Same_l8_step
      simp only [dlt hi, cond_true, inB_nat hi, ck_true, bne_self_eq_false, cond_false, wrap_succ (show i < 9223372036854775807 by omega)]
    · unfold ref01_Same_l8_step
      simp only [dge (Nat.lt_irrefl _), cond_false]
  unfold ref01_Same
  simp only [bne_self_eq_false, cond_false]
  rw [this]
  rfl
theorem awake30 : law30_awake () = some (true, ()) := by
  have h01 : Rch [((0 : Int), (2 : Int), ()), ((2 : Int), (1 : Int), ())] 0 1 :=
    .step (a := ((2 : Int), (1 : Int), ())) (.step (a := ((0 : Int), (2 : Int), ())) .refl (by simp)) (by simp)
  have h10 : ∀ w, Rch [((0 : Int), (2 : Int), ()), ((2 : Int), (1 : Int), ())] 1 w → w = 1 := fun w h => by
    induction h with
    | refl => rfl
    | step h ha ih =>
      simp only [List.mem_cons, List.not_mem_nil, or_false] at ha
      rcases ha with rfl | rfl
      · cases ih
      · rfl
  have e1 : outU [((0 : Int), (2 : Int), ()), ((2 : Int), (1 : Int), ())] 2 2 = [((0 : Int), (1 : Int), ())] := by
    have i01 : ind [((0 : Int), (2 : Int), ()), ((2 : Int), (1 : Int), ())] 0 1 = 1 := by unfold ind; rw [if_pos h01]
    have i10 : ind [((0 : Int), (2 : Int), ()), ((2 : Int), (1 : Int), ())] 1 0 = 0 := by unfold ind; rw [if_neg (fun h => by cases h10 0 h)]
    have r2 : List.range 2 = [0, 1] := rfl
    unfold outU rowU
    simp [r2, List.filter_cons, i01, i10]
  unfold law30_awake
  rw [mOutlives_eq _ _ (by decide) (by decide) (by decide)]
  have g1 : graphB (3 : Int) [((0 : Int), (2 : Int), ()), ((2 : Int), (1 : Int), ())] = true := by decide
  have g2 : graphB (2 : Int) [((1 : Int), (1 : Int), ())] = true := by decide
  simp only [List.map_cons, List.map_nil, arcOf, g1, if_true, Option.bind_some]
  rw [show min (2 : Int).toNat (3 : Int).toNat = 2 from rfl, e1, Bounds_refl (by decide)]
  simp only [Option.bind_some, cond_true]
  rw [mLoose_eq _ _ (by decide) (by decide) (by decide)]
  simp only [List.map_cons, List.map_nil, arcOf, g2, if_true, Option.bind_some]
  have e2 : looseL (2 : Int).toNat [((1 : Int), (1 : Int), (0 : Int), (0 : Int), (0 : Int), (0 : Int), false, ())] = [0] := by decide
  rw [e2, Same_refl (by decide)]
  rfl
theorem law30_true (x : Int × Int × List V_api_Edge × Unit) : law30_ModelOutlives x = some (true, ()) := by
  obtain ⟨u, n, l, _⟩ := x
  unfold law30_ModelOutlives
  simp only [cond_or]
  cases hc : decide (u > 20) || decide (n > 20) || decide ((l.length : Int) > 80) with
  | true => rw [cond_true, awake30]; rfl
  | false =>
    simp only [Bool.or_eq_false_iff, decide_eq_false_iff_not] at hc
    obtain ⟨⟨h1, h2⟩, h3⟩ := hc
    rw [cond_false, mOutlives_eq _ _ (by simp only; omega) (by simp only; omega) (by omega), rOutlives_eq _ _ (by simp only; omega) (by omega)]
    have hb : ∀ (c : Bool) (X : List Arc), X.length ≤ 400 → (if c = true then X else []).length ≤ 67108864 := fun c X hX => by cases c <;> simp <;> omega
    simp only [Option.bind_some]
    rw [Bounds_refl (by
      apply hb
      refine Nat.le_trans (outU_len _ _ _) ?_
      have : min u.toNat n.toNat * min u.toNat n.toNat ≤ 20 * 20 := Nat.mul_le_mul (by omega) (by omega)
      omega)]
    simp only [Option.bind_some, cond_true]
    rw [mLoose_eq _ _ (by simp only; omega) (by simp only; omega) (by omega), rLoose_eq _ _ (by simp only; omega) (by omega)]
    simp only [Option.bind_some]
    rw [Same_refl (by
      split
      · exact Nat.le_trans (looseL_len l) (by first | omega | (simp only; omega))
      · simp)]
    simp only [Option.bind_some, cond_true]
    rw [awake30]
    rfl
end Go.XD


/- The row: ModelOutlives returns true, for every input. -/
namespace Go.Proofs.Ytpgmlgdbchjhfaa
open Go.XD

theorem modelOutlives_own : ownKnob Try.prog.godebug = none := by kernel_rfl
theorem modelOutlives_lifted (os : Os) (started : os.Started) (H : Type) (enc : TypeId × Value → H) :
    ReturnsInHanded {} Try.checked os 8 .any (Rows.modelOutlivesSpec.pre6 enc Try.prog Try.f8 Rows.modelOutlivesRow.domain false) (Rows.modelOutlivesSpec.post enc Try.prog Try.f8 false true false false) :=
  law_ok (C := Try.checked) started modelOutlives_own (by kernel_rfl) Try.func8
    (ChangeSpec.witness6 (enc := enc) (C := Try.checked) false ⟨#[], #[.int .i64 0, .int .i64 0, .slice none 0 0], []⟩ 8 (by kernel_rfl) (by kernel_rfl) (by kernel_rfl) (by kernel_rfl))
    rfl (fun ds h => by
      match ds, h with
      | [_, _, _], _ => rfl) rfl (rt := 4) (by kernel_rfl) (by kernel_rfl) law30_ModelOutlives_ok law30_true (by kernel_rfl) (by kernel_rfl)
theorem modelOutlives_holds : Rows.ModelOutlivesSaid :=
  OpenClaim.holds_of_wide 8 Try.f8 rfl rfl rfl rfl rfl rfl rfl ⟨rfl, rfl, rfl, rfl, rfl⟩ rfl rfl rfl rfl rfl (by kernel_rfl) Try.func8 (by kernel_rfl)
    (of_decide_eq_true (by kernel_rfl)) (by unfold Func.isWrapper; first | (rw [if_pos (by decide +kernel)]; kernel_rfl) | (rw [if_neg (by decide +kernel)]; exact ⟨rfl, rfl⟩))
    (fun os started H enc _ => modelOutlives_lifted os started H enc)
#print axioms modelOutlives_holds
end Go.Proofs.Ytpgmlgdbchjhfaa


