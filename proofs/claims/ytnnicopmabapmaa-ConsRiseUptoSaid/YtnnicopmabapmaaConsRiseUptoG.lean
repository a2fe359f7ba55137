/- For every input of bulk at most 1048576 the law ConsRise returns true, and its arguments read as they did. -/
import Derived.Test.YtnnicopmabapmaaProg
import Derived.KernelRfl
import Derived.Test.YtnnicopmabapmaaIe
set_option linter.unusedVariables false
set_option linter.unusedSimpArgs false
set_option linter.unusedSectionVars false
set_option linter.unnecessarySimpa false
set_option linter.deprecated false
set_option maxRecDepth 100000
namespace Go.XD
open Go.Proofs

abbrev t_api_Slot : Ty := (.st (.cons (.int .i64) (.cons .bool .nil)))
abbrev V_api_Slot : Type := (Int × Bool × Unit)
abbrev t_api_Type : Ty := (.st (.cons (.lst t_api_Slot) .nil))
abbrev V_api_Type : Type := ((List V_api_Slot) × Unit)
abbrev t_easementref08_Pair : Ty := (.st (.cons (.int .i64) (.cons (.int .i64) .nil)))
abbrev V_easementref08_Pair : Type := (Int × Int × Unit)
abbrev t_api_Sig : Ty := (.st (.cons (.int .i64) (.cons (.lst t_easementref08_Pair) (.cons (.lst t_api_Type) (.cons (.lst t_api_Slot) .nil)))))
abbrev V_api_Sig : Type := (Int × (List V_easementref08_Pair) × (List V_api_Type) × (List V_api_Slot) × Unit)
abbrev t_api_Prov : Ty := (.st (.cons (.int .i64) (.cons (.int .i64) (.cons (.int .i64) (.cons (.int .i64) (.cons .bool .nil))))))
abbrev V_api_Prov : Type := (Int × Int × Int × Int × Bool × Unit)
abbrev t_api_Block : Ty := (.st (.cons (.lst t_api_Prov) (.cons (.int .i64) (.cons (.int .i64) (.cons (.int .i64) (.cons (.lst (.int .i64)) (.cons (.lst (.int .i64)) (.cons (.lst (.int .i64)) .nil))))))))
abbrev V_api_Block : Type := ((List V_api_Prov) × Int × Int × Int × (List Int) × (List Int) × (List Int) × Unit)
abbrev t_api_Body : Ty := (.st (.cons (.int .i64) (.cons (.int .i64) (.cons (.lst t_easementref08_Pair) (.cons (.lst t_api_Type) (.cons (.lst t_api_Slot) (.cons (.lst t_api_Sig) (.cons (.lst t_api_Block) .nil))))))))
abbrev V_api_Body : Type := (Int × Int × (List V_easementref08_Pair) × (List V_api_Type) × (List V_api_Slot) × (List V_api_Sig) × (List V_api_Block) × Unit)
abbrev t_valid_Fault : Ty := (.st (.cons (.int .i64) (.cons (.int .i64) (.cons (.int .i64) (.cons (.int .i64) .nil)))))
abbrev V_valid_Fault : Type := (Int × Int × Int × Int × Unit)
abbrev t_relate_maker : Ty := (.st (.cons (.lst t_api_Prov) .nil))
abbrev V_relate_maker : Type := ((List V_api_Prov) × Unit)
abbrev t_api_Term : Ty := (.st (.cons (.int .i64) (.cons (.int .i64) (.cons (.int .i64) (.cons (.lst (.int .i64)) (.cons (.lst (.int .i64)) (.cons (.lst (.int .i64)) .nil)))))))
abbrev V_api_Term : Type := (Int × Int × Int × (List Int) × (List Int) × (List Int) × Unit)
abbrev t_term_Around : Ty := (.st (.cons (.int .i64) (.cons (.int .i64) (.cons (.lst t_api_Type) (.cons (.lst t_api_Slot) (.cons (.lst t_api_Sig) .nil))))))
abbrev V_term_Around : Type := (Int × Int × (List V_api_Type) × (List V_api_Slot) × (List V_api_Sig) × Unit)
abbrev t_api_Edge : Ty := (.st (.cons (.int .i64) (.cons (.int .i64) (.cons (.int .i64) (.cons (.int .i64) (.cons (.int .i64) (.cons (.int .i64) (.cons .bool .nil))))))))
abbrev V_api_Edge : Type := (Int × Int × Int × Int × Int × Int × Bool × Unit)
abbrev t_stmt_fields : Ty := (.st (.cons .bool (.cons .bool (.cons .bool .nil))))
abbrev V_stmt_fields : Type := (Bool × Bool × Bool × Unit)
abbrev t_point_Points : Ty := (.st (.cons (.lst (.int .i64)) .nil))
abbrev V_point_Points : Type := ((List Int) × Unit)
abbrev t_easementref22_Point : Ty := (.st (.cons (.int .i64) (.cons (.int .i64) (.cons .bool .nil))))
abbrev V_easementref22_Point : Type := (Int × Int × Bool × Unit)
abbrev T1 : Type := ((Bool × V_api_Body × Unit) ⊕ ((V_api_Body × Unit) ⊕ Empty))
abbrev T2 : Type := ((Bool × V_api_Body × Unit) ⊕ ((Int × V_api_Body × Unit) ⊕ Empty))
abbrev T3 : Type := ((V_api_Body × V_valid_Fault × Unit) ⊕ ((V_api_Body × V_valid_Fault × Unit) ⊕ Empty))
abbrev T4 : Type := ((Bool × V_api_Type × V_api_Type × Unit) ⊕ ((V_api_Type × V_api_Type × Unit) ⊕ Empty))
abbrev T6 : Type := ((List V_api_Prov) × (List V_api_Slot) × (List V_api_Slot) × Int × Int × Int × Unit)
abbrev T8 : Type := (((List V_api_Prov) × Int × V_api_Type × Unit) ⊕ ((V_api_Type × Unit) ⊕ Empty))
abbrev T9 : Type := (V_api_Type × V_api_Type × (List Int) × (List V_api_Slot) × Int × Unit)
abbrev T10 : Type := ((Int × V_api_Type × (Unit × Unit) × (List V_api_Slot) × Unit) ⊕ (((List V_api_Slot) × V_api_Type × V_api_Type × Unit) ⊕ Empty))
abbrev T11 : Type := (V_api_Sig × (List Int) × (List V_api_Type) × (List V_api_Prov) × Int × Unit)
abbrev T12 : Type := (((List V_api_Prov) × Int × V_api_Sig × (List V_api_Prov) × Unit) ⊕ (((List V_api_Prov) × V_api_Sig × Unit) ⊕ Empty))
abbrev T13 : Type := (V_api_Sig × (List Int) × (List V_api_Type) × V_api_Type × Unit)
abbrev T14 : Type := (V_api_Term × V_term_Around × (List V_api_Type) × Int × Unit)
abbrev T15 : Type := (((List V_api_Type) × V_api_Term × V_term_Around × Unit) ⊕ Empty)
abbrev T16 : Type := (V_api_Body × V_valid_Fault × Int × (List V_api_Prov) × Int × Unit)
abbrev T17 : Type := ((V_api_Body × V_valid_Fault × V_term_Around × Unit) ⊕ ((V_api_Body × V_valid_Fault × V_term_Around × Unit) ⊕ Empty))
abbrev T19 : Type := (((Int × Int × (List V_easementref08_Pair) × (List V_api_Type) × (List V_api_Slot) × (List V_api_Sig) × (List V_api_Block) × Unit × Int × Int × Int × Int × Unit) × Unit) ⊕ Empty)
abbrev T22 : Type := (((Int × Int × (List V_easementref08_Pair) × (List V_api_Type) × (List V_api_Slot) × (List V_api_Sig) × (List V_api_Block) × Unit × Int × Int × Int × Int × Unit) × V_api_Body × Unit) ⊕ Empty)
abbrev T24 : Type := ((Int × Int × (List V_easementref08_Pair) × (List V_api_Type) × (List V_api_Slot) × (List V_api_Sig) × (List V_api_Block) × Unit × Int × Int × Int × Int × Unit) × V_api_Body × (List V_easementref08_Pair) × Int × Int × Unit)
abbrev T25 : Type := ((Int × Int × (List V_easementref08_Pair) × (List V_api_Type) × (List V_api_Slot) × (List V_api_Sig) × (List V_api_Block) × Unit × Int × Int × Int × Int × Unit) × Unit)
abbrev T26 : Type := ((List V_api_Slot) × Unit × (List V_api_Slot) × Int × Int × Unit)
abbrev T27 : Type := (V_api_Sig × (List V_easementref08_Pair) × Int × Int × Unit)
abbrev T28 : Type := ((Int × V_api_Sig × (List V_api_Type) × Unit) ⊕ ((V_api_Sig × (List V_api_Type) × Unit) ⊕ Empty))
abbrev T29 : Type := ((Int × Int × (List V_easementref08_Pair) × (List V_api_Type) × (List V_api_Slot) × (List V_api_Sig) × (List V_api_Block) × Unit × Int × Int × Int × Int × Unit) × V_api_Body × (List V_api_Type) × Int × Int × Unit)
abbrev T31 : Type := ((Int × Int × (List V_easementref08_Pair) × (List V_api_Type) × (List V_api_Slot) × (List V_api_Sig) × (List V_api_Block) × Unit × Int × Int × Int × Int × Unit) × (List V_api_Sig) × Int × Int × Unit)
abbrev T33 : Type := (V_relate_maker × (List V_api_Slot) × Int × Int × (List V_api_Slot) × Int × Int × Unit)
abbrev T36 : Type := ((Int × V_api_Term × Unit) ⊕ ((Int × V_api_Term × Unit) ⊕ Empty))
abbrev T37 : Type := ((List Int) × ((Option (Int × Unit)) × Unit) × Int × Int × Unit)
abbrev T38 : Type := ((Int × (Unit × Unit) × V_api_Type × Unit) ⊕ ((V_api_Type × V_api_Type × Unit) ⊕ Empty))
abbrev T39 : Type := ((List Int) × (List V_api_Prov) × (List V_easementref08_Pair) × Int × Int × Unit)
abbrev T40 : Type := ((List Int) × (List V_api_Type) × (List V_api_Prov) × (List V_api_Type) × Int × Int × Unit)
abbrev T41 : Type := (((List V_api_Prov) × Int × (List V_api_Prov) × Unit) ⊕ (V_relate_maker ⊕ Empty))
abbrev T42 : Type := (V_term_Around × (List V_api_Type) × (List Int) × Int × Int × Unit)
abbrev T44 : Type := ((Int × Int × (List V_easementref08_Pair) × (List V_api_Type) × (List V_api_Slot) × (List V_api_Sig) × (List V_api_Block) × Unit × Int × Int × Int × Int × Unit) × Int × (List V_api_Block) × Int × Int × Unit)
abbrev T45 : Type := ((Int × Int × (List V_easementref08_Pair) × (List V_api_Type) × (List V_api_Slot) × (List V_api_Sig) × (List V_api_Block) × Unit × Int × Int × Int × Int × Unit) × V_api_Body × Int × (List V_api_Prov) × Int × Int × Unit)
abbrev T46 : Type := ((Int × Int × (List V_easementref08_Pair) × (List V_api_Type) × (List V_api_Slot) × (List V_api_Sig) × (List V_api_Block) × Unit × Int × Int × Int × Int × Unit) × V_api_Body × V_term_Around × (List V_api_Block) × Int × Int × Unit)
abbrev T47 : Type := (((Int × Int × (List V_easementref08_Pair) × (List V_api_Type) × (List V_api_Slot) × (List V_api_Sig) × (List V_api_Block) × Unit × Int × Int × Int × Int × Unit) × V_api_Body × V_term_Around × Unit) ⊕ Empty)
abbrev T50 : Type := ((((Option V_point_Points) × Unit) × (Int × Unit) × Unit) × Int × Int × Unit)
abbrev T51 : Type := ((Int × (((Option V_point_Points) × Unit) × (Int × Unit) × Unit) × Unit) ⊕ Empty)
abbrev T53 : Type := (((Int × Int × (List V_easementref08_Pair) × (List V_api_Type) × (List V_api_Slot) × (List V_api_Sig) × (List V_api_Block) × Int × Int × (List V_api_Type) × (List V_api_Slot) × (List V_api_Sig) × (List V_api_Edge) × Unit × Unit) × Unit) ⊕ Empty)
abbrev T54 : Type := ((Int × Int × (List V_easementref08_Pair) × (List V_api_Type) × (List V_api_Slot) × (List V_api_Sig) × (List V_api_Block) × Int × Int × (List V_api_Type) × (List V_api_Slot) × (List V_api_Sig) × (List V_api_Edge) × Unit × Unit) × Int × Int × (List V_api_Prov) × Int × Int × Unit)
abbrev T58 : Type := ((Int × Int × (List V_easementref08_Pair) × (List V_api_Type) × (List V_api_Slot) × (List V_api_Sig) × (List V_api_Block) × Int × Int × (List V_api_Type) × (List V_api_Slot) × (List V_api_Sig) × (List V_api_Edge) × Unit × Unit) × (Option V_point_Points) × Int × Int × Unit)
abbrev T59 : Type := (((List V_easementref22_Point) × V_api_Body × Unit) ⊕ Empty)
abbrev T62 : Type := (V_easementref22_Point × (List V_api_Prov) × (List V_api_Edge) × Int × Unit)
abbrev T63 : Type := (((List V_api_Edge) × V_easementref22_Point × Unit) ⊕ Empty)
abbrev T64 : Type := (V_api_Body × (List V_easementref22_Point) × (List V_api_Edge) × Int × Unit)
abbrev T65 : Type := ((Int × Int × Int × Int × Int × Int × Int × Int × Int × Int × Int × Int × Int × Int × Int × Int × Int × Int × Int × Unit) × Int × Int × Unit)
abbrev T66 : Type := (V_api_Body × Int × Int × (List V_api_Edge) × (List V_api_Edge) × Int × Unit)
abbrev T67 : Type := ((Bool × V_api_Body × (List V_api_Edge) × (List V_api_Edge) × Unit) ⊕ (((List V_api_Edge) × V_api_Body × (List V_api_Edge) × Unit) ⊕ Empty))
abbrev q1 : CP := (.cons (.val (.int .i64)) (.cons (.val (.lst t_easementref08_Pair)) (.cons (.val (.lst t_api_Type)) (.cons (.val (.lst t_api_Slot)) .nil))))
abbrev q2 : CP := (.cons (.val (.int .i64)) (.cons (.val (.int .i64)) (.cons (.val (.lst t_easementref08_Pair)) (.cons (.val (.lst t_api_Type)) (.cons (.val (.lst t_api_Slot)) (.cons (.val (.lst t_api_Sig)) (.cons (.val (.lst t_api_Block)) .nil)))))))
abbrev q4 : CP := (.cons (.val (.int .i64)) (.cons (.val (.int .i64)) (.cons (.val (.int .i64)) (.cons (.val (.int .i64)) .nil))))
abbrev q24 : CP := (.cons (.val (.int .i64)) (.cons (.val (.int .i64)) (.cons (.val (.int .i64)) (.cons (.val (.lst (.int .i64))) (.cons (.val (.lst (.int .i64))) (.cons (.val (.lst (.int .i64))) .nil))))))
abbrev q25 : CP := (.cons (.val (.int .i64)) (.cons (.val (.int .i64)) (.cons (.val (.lst t_api_Type)) (.cons (.val (.lst t_api_Slot)) (.cons (.val (.lst t_api_Sig)) .nil)))))
abbrev q31 : CP := (.cons (.val (.int .i64)) (.cons (.val (.int .i64)) (.cons (.val (.lst t_easementref08_Pair)) (.cons (.val (.lst t_api_Type)) (.cons (.val (.lst t_api_Slot)) (.cons (.val (.lst t_api_Sig)) (.cons (.val (.lst t_api_Block)) (.cons (.cst true) (.cons (.val (.int .i64)) (.cons (.val (.int .i64)) (.cons (.val (.int .i64)) (.cons (.val (.int .i64)) .nil))))))))))))
abbrev q44 : CP := (.cons (.val (.int .i64)) (.cons (.val (.int .i64)) (.cons (.val (.int .i64)) (.cons (.val (.int .i64)) (.cons (.val .bool) .nil)))))
abbrev q53 : CP := (.cons (.val .bool) (.cons (.ptr q44) (.cons (.ptr (.cons (.val .bool) (.cons (.val .bool) (.cons (.val .bool) .nil)))) .nil)))
abbrev q58 : CP := (.cons (.val (.lst (.int .i64))) (.cons (.clo 144 (.cons (.val (.ptr (.cons (.int .i64) .nil))) .nil)) .nil))
abbrev q74 : CP := (.cons (.ptr (.cons (.val (.ptr (.cons (.lst (.int .i64)) .nil))) .nil)) (.cons (.ptr (.cons (.val (.int .i64)) .nil)) .nil))
abbrev q78 : CP := (.cons (.val (.int .i64)) (.cons (.val (.int .i64)) (.cons (.val (.lst t_easementref08_Pair)) (.cons (.val (.lst t_api_Type)) (.cons (.val (.lst t_api_Slot)) (.cons (.val (.lst t_api_Sig)) (.cons (.val (.lst t_api_Block)) (.cons (.val (.int .i64)) (.cons (.val (.int .i64)) (.cons (.val (.lst t_api_Type)) (.cons (.val (.lst t_api_Slot)) (.cons (.val (.lst t_api_Sig)) (.cons (.own t_api_Edge) (.cons (.cst true) .nil))))))))))))))
abbrev q85 : CP := (.cons (.val (.int .i64)) (.cons (.val (.int .i64)) (.cons (.val .bool) .nil)))
abbrev q86 : CP := (.cons (.val (.lst t_api_Prov)) (.cons (.val (.int .i64)) (.cons (.val (.int .i64)) (.cons (.val (.int .i64)) (.cons (.val (.lst (.int .i64))) (.cons (.val (.lst (.int .i64))) (.cons (.val (.lst (.int .i64))) .nil)))))))
noncomputable def k0 : FE Try.prog := ⟨[], [], [], [], trivial, trivial, trivial⟩

/-! ### easement/easementref15.Few: function 22 -/
noncomputable def ref15_Few (x : (V_api_Type × Int × Unit)) : Option (Bool × Unit) :=
  some (decide ((x.1.1.length : Int) ≤ x.2.1), ())
noncomputable def ref15_Few_c : Ctr := ⟨(.cons t_api_Type (.cons (.int .i64) .nil)), (.cons .bool .nil), ref15_Few, none⟩
theorem ref15_Few_ok : CtrOK Try.prog 22 ref15_Few_c := fun_E (ls := []) k0 Try.func22 trivial (by kernel_rfl) (fun x => by kernel_rfl)
/-! ### easement/easementref17.Few: function 23 -/
noncomputable def k2 : FE Try.prog := ⟨[(22, ref15_Few_c)], [], [], [], ⟨ref15_Few_ok, trivial⟩, trivial, trivial⟩
noncomputable def ref17_Few_l8_step (g : (V_api_Sig × Int × Unit) → Option ((Bool × V_api_Sig × Unit) ⊕ ((V_api_Sig × Unit) ⊕ Empty))) (x : (V_api_Sig × Int × Unit)) : Option ((Bool × V_api_Sig × Unit) ⊕ ((V_api_Sig × Unit) ⊕ Empty)) :=
  cond (decide (x.2.1 < (x.1.2.2.1.length : Int)))
    (ck (inB x.2.1 (x.1.2.2.1.length)) <|
    Option.bind (ref15_Few (rdL t_api_Type x.1.2.2.1 x.2.1, (20 : Int), ())) fun y2 =>
    cond (!y2.1)
      (some (.inl (false, x.1, ())))
      (g (x.1, IntKind.i64.wrap (x.2.1 + (1 : Int)), ())))
    (some (.inr (.inl (x.1, ()))))
noncomputable def k2l1 : LCtr := ⟨[1, 3], (.cons (.ptr q1) (.cons (.val (.int .i64)) .nil)), [some 0], [], [⟨.ret, [2, 1], (.cons (.val .bool) (.cons (.ptr q1) .nil)), [some 0]⟩, ⟨(.exit 0), [1], (.cons (.ptr q1) .nil), [some 0]⟩], fun _ => [], lim ref17_Few_l8_step⟩
theorem k2s : LsOK Try.prog Try.f23.ntmps (codeOf Try.f23) [(8, k2l1)] := loop_E 8 k2l1 k2 trivial (by kernel_rfl) rfl (fun g x => by kernel_rfl)
noncomputable def ref17_Few (x : (V_api_Sig × Unit)) : Option (Bool × Unit) :=
  cond (!(cond (decide ((x.1.2.1.length : Int) > (20 : Int))) true (decide ((x.1.2.2.1.length : Int) > (20 : Int)))))
    (Option.bind (ref15_Few (x.1.2.2.2, (20 : Int), ())) fun y1 =>
    cond (!y1.1)
      (some (false, ()))
      (Option.bind (lim ref17_Few_l8_step (x.1, (0 : Int), ())) fun y3 => out2 y3
        (fun z4 =>
          some (z4.1, ()))
        (fun z5 =>
          some (true, ()))))
    (some (false, ()))
noncomputable def ref17_Few_c : Ctr := ⟨(.cons t_api_Sig .nil), (.cons .bool .nil), ref17_Few, none⟩
theorem ref17_Few_ok : CtrOK Try.prog 23 ref17_Few_c := fun_E k2 Try.func23 k2s (by kernel_rfl) (fun x => by kernel_rfl)
/-! ### easement/easementref20.Small: function 5 -/
noncomputable def k3 : FE Try.prog := ⟨[(22, ref15_Few_c), (23, ref17_Few_c)], [], [], [], ⟨ref15_Few_ok, ref17_Few_ok, trivial⟩, trivial, trivial⟩
noncomputable def ref20_Small_l8_step (g : (V_api_Body × Int × Unit) → Option T1) (x : (V_api_Body × Int × Unit)) : Option T1 :=
  cond (decide (x.2.1 < (x.1.2.2.2.1.length : Int)))
    (ck (inB x.2.1 (x.1.2.2.2.1.length)) <|
    Option.bind (ref15_Few (rdL t_api_Type x.1.2.2.2.1 x.2.1, (20 : Int), ())) fun y2 =>
    cond (!y2.1)
      (some (.inl (false, x.1, ())))
      (g (x.1, IntKind.i64.wrap (x.2.1 + (1 : Int)), ())))
    (some (.inr (.inl (x.1, ()))))
noncomputable def k3l1 : LCtr := ⟨[1, 3], (.cons (.ptr q2) (.cons (.val (.int .i64)) .nil)), [some 0], [1], [⟨.ret, [2, 1], (.cons (.val .bool) (.cons (.ptr q2) .nil)), [some 0]⟩, ⟨(.exit 0), [1], (.cons (.ptr q2) .nil), [some 0]⟩], fun _ => [], lim ref20_Small_l8_step⟩
noncomputable def ref20_Small_l18_step (g : (V_api_Body × Int × Unit) → Option T1) (x : (V_api_Body × Int × Unit)) : Option T1 :=
  cond (decide (x.2.1 < (x.1.2.2.2.2.2.1.length : Int)))
    (ck (inB x.2.1 (x.1.2.2.2.2.2.1.length)) <|
    Option.bind (ref17_Few (rdL t_api_Sig x.1.2.2.2.2.2.1 x.2.1, ())) fun y6 =>
    cond (!y6.1)
      (some (.inl (false, x.1, ())))
      (g (x.1, IntKind.i64.wrap (x.2.1 + (1 : Int)), ())))
    (some (.inr (.inl (x.1, ()))))
noncomputable def k3l2 : LCtr := ⟨[1, 4], (.cons (.ptr q2) (.cons (.val (.int .i64)) .nil)), [some 0], [1], [⟨.ret, [2, 1], (.cons (.val .bool) (.cons (.ptr q2) .nil)), [some 0]⟩, ⟨(.exit 2), [1], (.cons (.ptr q2) .nil), [some 0]⟩], fun _ => [], lim ref20_Small_l18_step⟩
noncomputable def ref20_Small_l30_step (g : (V_api_Body × Int × Int × Unit) → Option T2) (x : (V_api_Body × Int × Int × Unit)) : Option T2 :=
  cond (decide (x.2.2.1 < (x.1.2.2.2.2.2.2.1.length : Int)))
    (ck (inB x.2.2.1 (x.1.2.2.2.2.2.2.1.length)) <|
    ck (inB x.2.2.1 (x.1.2.2.2.2.2.2.1.length)) <|
    let v1 := (rdL t_api_Block x.1.2.2.2.2.2.2.1 x.2.2.1).2.2.2.2
    cond (cond (cond (decide ((v1.1.length : Int) > (20 : Int))) true (decide ((v1.2.1.length : Int) > (20 : Int)))) true (decide ((v1.2.2.1.length : Int) > (20 : Int))))
      (some (.inl (false, x.1, ())))
      (g (x.1, IntKind.i64.wrap (x.2.1 + ((rdL t_api_Block x.1.2.2.2.2.2.2.1 x.2.2.1).1.length : Int)), IntKind.i64.wrap (x.2.2.1 + (1 : Int)), ())))
    (some (.inr (.inl (x.2.1, x.1, ()))))
noncomputable def k3l3 : LCtr := ⟨[1, 5, 6], (.cons (.ptr q2) (.cons (.val (.int .i64)) (.cons (.val (.int .i64)) .nil))), [some 0], [], [⟨.ret, [2, 1], (.cons (.val .bool) (.cons (.ptr q2) .nil)), [some 0]⟩, ⟨(.exit 4), [5, 1], (.cons (.val (.int .i64)) (.cons (.ptr q2) .nil)), [some 0]⟩], fun _ => [], lim ref20_Small_l30_step⟩
theorem k3s : LsOK Try.prog Try.f5.ntmps (codeOf Try.f5) [(30, k3l3), (18, k3l2), (8, k3l1)] := loop_E 30 k3l3 k3 (loop_E 18 k3l2 k3 (loop_E 8 k3l1 k3 trivial (by kernel_rfl) rfl (fun g x => by kernel_rfl)) (by kernel_rfl) rfl (fun g x => by kernel_rfl)) (by kernel_rfl) rfl (fun g x => by kernel_rfl)
noncomputable def ref20_Small (x : (V_api_Body × Unit)) : Option (Bool × Unit) :=
  cond (!(cond (cond (cond (decide ((x.1.2.2.1.length : Int) > (20 : Int))) true (decide ((x.1.2.2.2.1.length : Int) > (10 : Int)))) true (decide ((x.1.2.2.2.2.2.1.length : Int) > (4 : Int)))) true (decide ((x.1.2.2.2.2.2.2.1.length : Int) > (8 : Int)))))
    (Option.bind (ref15_Few ((x.1.2.2.2.2.1, ()), (20 : Int), ())) fun y1 =>
    cond (!y1.1)
      (some (false, ()))
      (Option.bind (lim ref20_Small_l8_step (x.1, (0 : Int), ())) fun y3 => out2 y3
        (fun z4 =>
          some (z4.1, ()))
        (fun z5 =>
          Option.bind (lim ref20_Small_l18_step (z5.1, (0 : Int), ())) fun y7 => out2 y7
            (fun z8 =>
              some (z8.1, ()))
            (fun z9 =>
              Option.bind (lim ref20_Small_l30_step (z9.1, (0 : Int), (0 : Int), ())) fun y10 => out2 y10
                (fun z11 =>
                  some (z11.1, ()))
                (fun z12 =>
                  some (decide (z12.1 ≤ (24 : Int)), ()))))))
    (some (false, ()))
noncomputable def ref20_Small_c : Ctr := ⟨(.cons t_api_Body .nil), (.cons .bool .nil), ref20_Small, none⟩
theorem ref20_Small_ok : CtrOK Try.prog 5 ref20_Small_c := fun_E k3 Try.func5 k3s (by kernel_rfl) (fun x => by kernel_rfl)
/-! ### easement/easementref21.head: function 44 -/
noncomputable def ref21_head_l16_step (g : (V_api_Body × V_valid_Fault × Int × Unit) → Option T3) (x : (V_api_Body × V_valid_Fault × Int × Unit)) : Option T3 :=
  cond (decide (x.2.2.1 < (x.1.2.2.1.length : Int)))
    (ck (inB x.2.2.1 (x.1.2.2.1.length)) <|
    let v1 := rdL t_easementref08_Pair x.1.2.2.1 x.2.2.1
    cond (cond (cond (cond (decide (v1.1 < (0 : Int))) true (decide (v1.1 ≥ x.1.1))) true (decide (v1.2.1 < (0 : Int)))) true (decide (v1.2.1 ≥ x.1.1)))
      (some (.inl (x.1, ((7 : Int), (1 : Int), x.2.2.1, (0 : Int), ()), ())))
      (g (x.1, x.2.1, IntKind.i64.wrap (x.2.2.1 + (1 : Int)), ())))
    (some (.inr (.inl (x.1, x.2.1, ()))))
noncomputable def k4l1 : LCtr := ⟨[1, 2, 3], (.cons (.ptr q2) (.cons (.ptr q4) (.cons (.val (.int .i64)) .nil))), [some 0, some 1], [2], [⟨.ret, [1, 2], (.cons (.ptr q2) (.cons (.ptr q4) .nil)), [some 0, some 1]⟩, ⟨(.exit 0), [1, 2], (.cons (.ptr q2) (.cons (.ptr q4) .nil)), [some 0, some 1]⟩], fun _ => [], lim ref21_head_l16_step⟩
theorem k4s : LsOK Try.prog Try.f44.ntmps (codeOf Try.f44) [(16, k4l1)] := loop_E 16 k4l1 k0 trivial (by kernel_rfl) rfl (fun g x => by kernel_rfl)
noncomputable def ref21_head (x : (V_api_Body × Unit)) : Option (V_valid_Fault × Unit) :=
  cond (cond (decide (x.1.1 < (1 : Int))) true (decide (x.1.2.1 < x.1.1)))
    (some (((7 : Int), (0 : Int), (0 : Int), (0 : Int), ()), ()))
    (cond (decide (x.1.2.1 > (65536 : Int)))
      (some (((6 : Int), (0 : Int), (0 : Int), (0 : Int), ()), ()))
      (cond (decide ((x.1.2.2.1.length : Int) > (65536 : Int)))
        (some (((6 : Int), (1 : Int), (0 : Int), (0 : Int), ()), ()))
        (Option.bind (lim ref21_head_l16_step (x.1, ((0 : Int), (0 : Int), (0 : Int), (0 : Int), ()), (0 : Int), ())) fun y1 => out2 y1
          (fun z2 =>
            some z2.2)
          (fun z3 =>
            some (((0 : Int), (0 : Int), (0 : Int), (0 : Int), ()), ())))))
noncomputable def ref21_head_c : Ctr := ⟨(.cons t_api_Body .nil), (.cons t_valid_Fault .nil), ref21_head, none⟩
theorem ref21_head_ok : CtrOK Try.prog 44 ref21_head_c := fun_E k0 Try.func44 k4s (by kernel_rfl) (fun x => by kernel_rfl)
/-! ### easement/easementref15.Check: function 68 -/
noncomputable def ref15_Check_l8_step (g : (V_api_Type × Int × Int × Unit) → Option ((Int × V_api_Type × Unit) ⊕ ((V_api_Type × Unit) ⊕ Empty))) (x : (V_api_Type × Int × Int × Unit)) : Option ((Int × V_api_Type × Unit) ⊕ ((V_api_Type × Unit) ⊕ Empty)) :=
  cond (decide (x.2.2.1 < (x.1.1.length : Int)))
    (ck (inB x.2.2.1 (x.1.1.length)) <|
    let v1 := decide ((rdL t_api_Slot x.1.1 x.2.2.1).1 < (0 : Int))
    ck ((inB x.2.2.1 (x.1.1.length)) || !(!v1)) <|
    cond (cond v1 true (decide ((rdL t_api_Slot x.1.1 x.2.2.1).1 ≥ x.2.1)))
      (some (.inl ((7 : Int), x.1, ())))
      (g (x.1, x.2.1, IntKind.i64.wrap (x.2.2.1 + (1 : Int)), ())))
    (some (.inr (.inl (x.1, ()))))
noncomputable def k5l1 : LCtr := ⟨[2, 1, 5], (.cons (.ptr (.cons (.val (.lst t_api_Slot)) .nil)) (.cons (.val (.int .i64)) (.cons (.val (.int .i64)) .nil))), [some 0], [], [⟨.ret, [4, 2], (.cons (.val (.int .i64)) (.cons (.ptr (.cons (.val (.lst t_api_Slot)) .nil)) .nil)), [some 0]⟩, ⟨(.exit 0), [2], (.cons (.ptr (.cons (.val (.lst t_api_Slot)) .nil)) .nil), [some 0]⟩], fun _ => [], lim ref15_Check_l8_step⟩
theorem k5s : LsOK Try.prog Try.f68.ntmps (codeOf Try.f68) [(8, k5l1)] := loop_E 8 k5l1 k0 trivial (by kernel_rfl) rfl (fun g x => by kernel_rfl)
noncomputable def ref15_Check (x : (V_api_Type × Int × Unit)) : Option (Int × Unit) :=
  cond (decide ((x.1.1.length : Int) > (16 : Int)))
    (some ((6 : Int), ()))
    (Option.bind (lim ref15_Check_l8_step (x.1, x.2.1, (0 : Int), ())) fun y1 => out2 y1
      (fun z2 =>
        some (z2.1, ()))
      (fun z3 =>
        some ((0 : Int), ())))
noncomputable def ref15_Check_c : Ctr := ⟨(.cons t_api_Type (.cons (.int .i64) .nil)), (.cons (.int .i64) .nil), ref15_Check, none⟩
theorem ref15_Check_ok : CtrOK Try.prog 68 ref15_Check_c := fun_E k0 Try.func68 k5s (by kernel_rfl) (fun x => by kernel_rfl)
/-! ### easement/easementref15.Shape: function 69 -/
noncomputable def ref15_Shape_l8_step (g : (V_api_Type × V_api_Type × Int × Unit) → Option T4) (x : (V_api_Type × V_api_Type × Int × Unit)) : Option T4 :=
  cond (decide (x.2.2.1 < (x.1.1.length : Int)))
    (ck (inB x.2.2.1 (x.1.1.length)) <|
    ck (inB x.2.2.1 (x.2.1.1.length)) <|
    cond (!((rdL t_api_Slot x.1.1 x.2.2.1).2.1 == (rdL t_api_Slot x.2.1.1 x.2.2.1).2.1))
      (some (.inl (false, x.1, x.2.1, ())))
      (g (x.1, x.2.1, IntKind.i64.wrap (x.2.2.1 + (1 : Int)), ())))
    (some (.inr (.inl (x.1, x.2.1, ()))))
noncomputable def k6l1 : LCtr := ⟨[2, 3, 5], (.cons (.ptr (.cons (.val (.lst t_api_Slot)) .nil)) (.cons (.ptr (.cons (.val (.lst t_api_Slot)) .nil)) (.cons (.val (.int .i64)) .nil))), [some 0, some 1], [], [⟨.ret, [4, 2, 3], (.cons (.val .bool) (.cons (.ptr (.cons (.val (.lst t_api_Slot)) .nil)) (.cons (.ptr (.cons (.val (.lst t_api_Slot)) .nil)) .nil))), [some 0, some 1]⟩, ⟨(.exit 0), [2, 3], (.cons (.ptr (.cons (.val (.lst t_api_Slot)) .nil)) (.cons (.ptr (.cons (.val (.lst t_api_Slot)) .nil)) .nil)), [some 0, some 1]⟩], fun _ => [], lim ref15_Shape_l8_step⟩
theorem k6s : LsOK Try.prog Try.f69.ntmps (codeOf Try.f69) [(8, k6l1)] := loop_E 8 k6l1 k0 trivial (by kernel_rfl) rfl (fun g x => by kernel_rfl)
noncomputable def ref15_Shape (x : (V_api_Type × V_api_Type × Unit)) : Option (Bool × Unit) :=
  cond ((x.1.1.length : Int) != (x.2.1.1.length : Int))
    (some (false, ()))
    (Option.bind (lim ref15_Shape_l8_step (x.1, x.2.1, (0 : Int), ())) fun y1 => out2 y1
      (fun z2 =>
        some (z2.1, ()))
      (fun z3 =>
        some (true, ())))
noncomputable def ref15_Shape_c : Ctr := ⟨(.cons t_api_Type (.cons t_api_Type .nil)), (.cons .bool .nil), ref15_Shape, none⟩
theorem ref15_Shape_ok : CtrOK Try.prog 69 ref15_Shape_c := fun_E k0 Try.func69 k6s (by kernel_rfl) (fun x => by kernel_rfl)
/-! ### easement/easementref17.Check: function 70 -/
noncomputable def k7 : FE Try.prog := ⟨[(68, ref15_Check_c)], [], [], [], ⟨ref15_Check_ok, trivial⟩, trivial, trivial⟩
noncomputable def ref17_Check_l12_step (g : (V_api_Sig × Int × Unit) → Option ((Int × V_api_Sig × Unit) ⊕ ((V_api_Sig × Unit) ⊕ Empty))) (x : (V_api_Sig × Int × Unit)) : Option ((Int × V_api_Sig × Unit) ⊕ ((V_api_Sig × Unit) ⊕ Empty)) :=
  cond (decide (x.2.1 < (x.1.2.1.length : Int)))
    (ck (inB x.2.1 (x.1.2.1.length)) <|
    let v1 := rdL t_easementref08_Pair x.1.2.1 x.2.1
    cond (cond (cond (cond (decide (v1.1 < (0 : Int))) true (decide (v1.1 ≥ x.1.1))) true (decide (v1.2.1 < (0 : Int)))) true (decide (v1.2.1 ≥ x.1.1)))
      (some (.inl ((7 : Int), x.1, ())))
      (g (x.1, IntKind.i64.wrap (x.2.1 + (1 : Int)), ())))
    (some (.inr (.inl (x.1, ()))))
noncomputable def k7l1 : LCtr := ⟨[1, 3], (.cons (.ptr q1) (.cons (.val (.int .i64)) .nil)), [some 0], [1], [⟨.ret, [2, 1], (.cons (.val (.int .i64)) (.cons (.ptr q1) .nil)), [some 0]⟩, ⟨(.exit 0), [1], (.cons (.ptr q1) .nil), [some 0]⟩], fun _ => [], lim ref17_Check_l12_step⟩
noncomputable def ref17_Check_l24_step (g : (V_api_Sig × Int × Unit) → Option ((Int × V_api_Sig × Unit) ⊕ ((V_api_Sig × Unit) ⊕ Empty))) (x : (V_api_Sig × Int × Unit)) : Option ((Int × V_api_Sig × Unit) ⊕ ((V_api_Sig × Unit) ⊕ Empty)) :=
  cond (decide (x.2.1 < (x.1.2.2.1.length : Int)))
    (ck (inB x.2.1 (x.1.2.2.1.length)) <|
    Option.bind (ref15_Check (rdL t_api_Type x.1.2.2.1 x.2.1, x.1.1, ())) fun y4 =>
    cond (y4.1 != (0 : Int))
      (some (.inl (y4.1, x.1, ())))
      (g (x.1, IntKind.i64.wrap (x.2.1 + (1 : Int)), ())))
    (some (.inr (.inl (x.1, ()))))
noncomputable def k7l2 : LCtr := ⟨[1, 5], (.cons (.ptr q1) (.cons (.val (.int .i64)) .nil)), [some 0], [1], [⟨.ret, [2, 1], (.cons (.val (.int .i64)) (.cons (.ptr q1) .nil)), [some 0]⟩, ⟨(.exit 2), [1], (.cons (.ptr q1) .nil), [some 0]⟩], fun _ => [], lim ref17_Check_l24_step⟩
theorem k7s : LsOK Try.prog Try.f70.ntmps (codeOf Try.f70) [(24, k7l2), (12, k7l1)] := loop_E 24 k7l2 k7 (loop_E 12 k7l1 k7 trivial (by kernel_rfl) rfl (fun g x => by kernel_rfl)) (by kernel_rfl) rfl (fun g x => by kernel_rfl)
noncomputable def ref17_Check (x : (V_api_Sig × Unit)) : Option (Int × Unit) :=
  cond (decide (x.1.1 < (0 : Int)))
    (some ((7 : Int), ()))
    (cond (cond (cond (decide (x.1.1 > (16 : Int))) true (decide ((x.1.2.1.length : Int) > (16 : Int)))) true (decide ((x.1.2.2.1.length : Int) > (16 : Int))))
      (some ((6 : Int), ()))
      (Option.bind (lim ref17_Check_l12_step (x.1, (0 : Int), ())) fun y1 => out2 y1
        (fun z2 =>
          some (z2.1, ()))
        (fun z3 =>
          Option.bind (lim ref17_Check_l24_step (z3.1, (0 : Int), ())) fun y5 => out2 y5
            (fun z6 =>
              some (z6.1, ()))
            (fun z7 =>
              Option.bind (ref15_Check (z7.1.2.2.2, z7.1.1, ())) fun y8 =>
              some y8))))
noncomputable def ref17_Check_c : Ctr := ⟨(.cons t_api_Sig .nil), (.cons (.int .i64) .nil), ref17_Check, none⟩
theorem ref17_Check_ok : CtrOK Try.prog 70 ref17_Check_c := fun_E k7 Try.func70 k7s (by kernel_rfl) (fun x => by kernel_rfl)
/-! ### easement/easementref21.types: function 45 -/
noncomputable def k8 : FE Try.prog := ⟨[(68, ref15_Check_c), (69, ref15_Shape_c), (70, ref17_Check_c)], [], [], [], ⟨ref15_Check_ok, ref15_Shape_ok, ref17_Check_ok, trivial⟩, trivial, trivial⟩
noncomputable def ref21_types_l12_step (g : (V_api_Body × V_valid_Fault × Int × Unit) → Option T3) (x : (V_api_Body × V_valid_Fault × Int × Unit)) : Option T3 :=
  cond (decide (x.2.2.1 < (x.1.2.2.2.1.length : Int)))
    (ck (inB x.2.2.1 (x.1.2.2.2.1.length)) <|
    Option.bind (ref15_Check (rdL t_api_Type x.1.2.2.2.1 x.2.2.1, x.1.2.1, ())) fun y1 =>
    cond (y1.1 != (0 : Int))
      (some (.inl (x.1, (y1.1, (2 : Int), x.2.2.1, (0 : Int), ()), ())))
      (g (x.1, x.2.1, IntKind.i64.wrap (x.2.2.1 + (1 : Int)), ())))
    (some (.inr (.inl (x.1, x.2.1, ()))))
noncomputable def k8l1 : LCtr := ⟨[1, 2, 3], (.cons (.ptr q2) (.cons (.ptr q4) (.cons (.val (.int .i64)) .nil))), [some 0, some 1], [1, 2], [⟨.ret, [1, 2], (.cons (.ptr q2) (.cons (.ptr q4) .nil)), [some 0, some 1]⟩, ⟨(.exit 0), [1, 2], (.cons (.ptr q2) (.cons (.ptr q4) .nil)), [some 0, some 1]⟩], fun _ => [], lim ref21_types_l12_step⟩
noncomputable def ref21_types_l38_step (g : (V_api_Body × V_valid_Fault × Int × Unit) → Option T3) (x : (V_api_Body × V_valid_Fault × Int × Unit)) : Option T3 :=
  cond (decide (x.2.2.1 < (x.1.2.2.2.2.2.1.length : Int)))
    (ck (inB x.2.2.1 (x.1.2.2.2.2.2.1.length)) <|
    Option.bind (ref17_Check (rdL t_api_Sig x.1.2.2.2.2.2.1 x.2.2.1, ())) fun y7 =>
    cond (y7.1 != (0 : Int))
      (some (.inl (x.1, (y7.1, (4 : Int), x.2.2.1, (0 : Int), ()), ())))
      (g (x.1, x.2.1, IntKind.i64.wrap (x.2.2.1 + (1 : Int)), ())))
    (some (.inr (.inl (x.1, x.2.1, ()))))
noncomputable def k8l2 : LCtr := ⟨[1, 2, 6], (.cons (.ptr q2) (.cons (.ptr q4) (.cons (.val (.int .i64)) .nil))), [some 0, some 1], [2], [⟨.ret, [1, 2], (.cons (.ptr q2) (.cons (.ptr q4) .nil)), [some 0, some 1]⟩, ⟨(.exit 2), [1, 2], (.cons (.ptr q2) (.cons (.ptr q4) .nil)), [some 0, some 1]⟩], fun _ => [], lim ref21_types_l38_step⟩
theorem k8s : LsOK Try.prog Try.f45.ntmps (codeOf Try.f45) [(38, k8l2), (12, k8l1)] := loop_E 38 k8l2 k8 (loop_E 12 k8l1 k8 trivial (by kernel_rfl) rfl (fun g x => by kernel_rfl)) (by kernel_rfl) rfl (fun g x => by kernel_rfl)
noncomputable def ref21_types (x : (V_api_Body × Unit)) : Option (V_valid_Fault × Unit) :=
  cond ((x.1.2.2.2.1.length : Int) == (0 : Int))
    (some (((14 : Int), (2 : Int), (0 : Int), (0 : Int), ()), ()))
    (cond (decide ((x.1.2.2.2.1.length : Int) > (65536 : Int)))
      (some (((6 : Int), (2 : Int), (0 : Int), (0 : Int), ()), ()))
      (Option.bind (lim ref21_types_l12_step (x.1, ((0 : Int), (0 : Int), (0 : Int), (0 : Int), ()), (0 : Int), ())) fun y2 => out2 y2
        (fun z3 =>
          some z3.2)
        (fun z4 =>
          Option.bind (ref15_Check ((z4.1.2.2.2.2.1, ()), z4.1.1, ())) fun y5 =>
          cond (y5.1 != (0 : Int))
            (some ((y5.1, (3 : Int), (0 : Int), (0 : Int), ()), ()))
            (ck (inB (0 : Int) (z4.1.2.2.2.1.length)) <|
            Option.bind (ref15_Shape (rdL t_api_Type z4.1.2.2.2.1 (0 : Int), (z4.1.2.2.2.2.1, ()), ())) fun y6 =>
            cond (!y6.1)
              (some (((8 : Int), (3 : Int), (0 : Int), (0 : Int), ()), ()))
              (cond (decide ((z4.1.2.2.2.2.2.1.length : Int) > (65536 : Int)))
                (some (((6 : Int), (4 : Int), (0 : Int), (0 : Int), ()), ()))
                (Option.bind (lim ref21_types_l38_step (z4.1, z4.2.1, (0 : Int), ())) fun y8 => out2 y8
                  (fun z9 =>
                    some z9.2)
                  (fun z10 =>
                    some (((0 : Int), (0 : Int), (0 : Int), (0 : Int), ()), ()))))))))
noncomputable def ref21_types_c : Ctr := ⟨(.cons t_api_Body .nil), (.cons t_valid_Fault .nil), ref21_types, none⟩
theorem ref21_types_ok : CtrOK Try.prog 45 ref21_types_c := fun_E k8 Try.func45 k8s (by kernel_rfl) (fun x => by kernel_rfl)
/-! ### easement/easementref18.Dst: function 82 -/
noncomputable def ref18_Dst (x : (Int × Unit)) : Option (Bool × Unit) :=
  some (cond (cond (cond (x.1 == (1 : Int)) true (x.1 == (2 : Int))) true (x.1 == (3 : Int))) true (x.1 == (5 : Int)), ())
noncomputable def ref18_Dst_c : Ctr := ⟨(.cons (.int .i64) .nil), (.cons .bool .nil), ref18_Dst, none⟩
theorem ref18_Dst_ok : CtrOK Try.prog 82 ref18_Dst_c := fun_E (ls := []) k0 Try.func82 trivial (by kernel_rfl) (fun x => by kernel_rfl)
/-! ### easement/easementref18.Src: function 83 -/
noncomputable def ref18_Src (x : (Int × Unit)) : Option (Bool × Unit) :=
  some (cond (decide (x.1 ≥ (1 : Int))) (decide (x.1 ≤ (4 : Int))) false, ())
noncomputable def ref18_Src_c : Ctr := ⟨(.cons (.int .i64) .nil), (.cons .bool .nil), ref18_Src, none⟩
theorem ref18_Src_ok : CtrOK Try.prog 83 ref18_Src_c := fun_E (ls := []) k0 Try.func83 trivial (by kernel_rfl) (fun x => by kernel_rfl)
/-! ### easement/easementref18.Region: function 84 -/
noncomputable def ref18_Region (x : (Int × Unit)) : Option (Bool × Unit) :=
  some (cond (x.1 == (2 : Int)) true (x.1 == (3 : Int)), ())
noncomputable def ref18_Region_c : Ctr := ⟨(.cons (.int .i64) .nil), (.cons .bool .nil), ref18_Region, none⟩
theorem ref18_Region_ok : CtrOK Try.prog 84 ref18_Region_c := fun_E (ls := []) k0 Try.func84 trivial (by kernel_rfl) (fun x => by kernel_rfl)
/-! ### easement/easementref18.Form: function 81 -/
noncomputable def k12 : FE Try.prog := ⟨[(82, ref18_Dst_c), (83, ref18_Src_c), (84, ref18_Region_c)], [], [], [], ⟨ref18_Dst_ok, ref18_Src_ok, ref18_Region_ok, trivial⟩, trivial, trivial⟩
noncomputable def ref18_Form (x : (V_api_Prov × Unit)) : Option (Bool × Unit) :=
  cond (cond (decide (x.1.1 ≥ (0 : Int))) (decide (x.1.1 ≤ (5 : Int))) false)
    (Option.bind (ref18_Dst (x.1.1, ())) fun y1 =>
    cond (cond y1.1 true (x.1.2.1 == (0 : Int)))
      (Option.bind (ref18_Src (x.1.1, ())) fun y2 =>
      cond (cond y2.1 true (x.1.2.2.1 == (0 : Int)))
        (Option.bind (ref18_Region (x.1.1, ())) fun y3 =>
        some (cond y3.1 true (cond (x.1.2.2.2.1 == (0 : Int)) (!x.1.2.2.2.2.1) false), ()))
        (some (false, ())))
      (some (false, ())))
    (some (false, ()))
noncomputable def ref18_Form_c : Ctr := ⟨(.cons t_api_Prov .nil), (.cons .bool .nil), ref18_Form, none⟩
theorem ref18_Form_ok : CtrOK Try.prog 81 ref18_Form_c := fun_E (ls := []) k12 Try.func81 trivial (by kernel_rfl) (fun x => by kernel_rfl)
/-! ### easement/easementref16.slots: function 121, at objects -/
noncomputable def ref16_slots_p0_j81_v (x : ((List V_api_Prov) × (List V_api_Slot) × (List V_api_Slot) × Int × Int × Int × Bool × Unit)) : Option (V_relate_maker ⊕ Empty) :=
  cond (x.2.2.2.2.2.2.1)
    (ck (inB x.2.2.2.2.2.1 (x.2.2.1.length)) <|
    ck (inB x.2.2.2.2.2.1 (x.2.1.length)) <|
    let v1 := x.1 ++ [((rdL t_api_Slot x.2.2.1 x.2.2.2.2.2.1).1, (rdL t_api_Slot x.2.1 x.2.2.2.2.2.1).1, x.2.2.2.1, IntKind.i64.wrap (x.2.2.2.2.1 + x.2.2.2.2.2.1), true, ())]
    ck (roomB v1.length 46) <|
    some (.inl (v1, ())))
    (some (.inl (x.1, ())))
noncomputable def k13l1 : LCtr := ⟨[0, 1, 2, 3, 4, 11, 40], (.cons (.own t_api_Prov) (.cons (.val (.lst t_api_Slot)) (.cons (.val (.lst t_api_Slot)) (.cons (.val (.int .i64)) (.cons (.val (.int .i64)) (.cons (.val (.int .i64)) (.cons (.val .bool) .nil))))))), [], [1, 2, 3, 4, 11], [⟨.normal, [0], (.cons (.own t_api_Prov) .nil), [none]⟩], fun _ => [], ref16_slots_p0_j81_v⟩
noncomputable def ref16_slots_p0_l4_step (g : T6 → Option (V_relate_maker ⊕ Empty)) (x : T6) : Option (V_relate_maker ⊕ Empty) :=
  cond (decide (x.2.2.2.2.2.1 < (x.2.1.length : Int)))
    (ck (inB x.2.2.2.2.2.1 (x.2.1.length)) <|
    ck (inB x.2.2.2.2.2.1 (x.2.2.1.length)) <|
    let v1 := x.1 ++ [((rdL t_api_Slot x.2.1 x.2.2.2.2.2.1).1, (rdL t_api_Slot x.2.2.1 x.2.2.2.2.2.1).1, x.2.2.2.1, IntKind.i64.wrap (x.2.2.2.2.1 + x.2.2.2.2.2.1), false, ())]
    ck (roomB v1.length 46) <|
    ck (inB x.2.2.2.2.2.1 (x.2.2.1.length)) <|
    Option.bind (ref16_slots_p0_j81_v (v1, x.2.1, x.2.2.1, x.2.2.2.1, x.2.2.2.2.1, x.2.2.2.2.2.1, (rdL t_api_Slot x.2.2.1 x.2.2.2.2.2.1).2)) fun y1 => out1 y1
      (fun z2 =>
        g (z2.1, x.2.1, x.2.2.1, x.2.2.2.1, x.2.2.2.2.1, IntKind.i64.wrap (x.2.2.2.2.2.1 + (1 : Int)), ())))
    (some (.inl (x.1, ())))
noncomputable def k13l2 : LCtr := ⟨[0, 1, 2, 3, 4, 11], (.cons (.own t_api_Prov) (.cons (.val (.lst t_api_Slot)) (.cons (.val (.lst t_api_Slot)) (.cons (.val (.int .i64)) (.cons (.val (.int .i64)) (.cons (.val (.int .i64)) .nil)))))), [none], [1, 2, 3, 4], [⟨(.exit 0), [0], (.cons (.own t_api_Prov) .nil), [none]⟩], fun _ => [], lim ref16_slots_p0_l4_step⟩
theorem k13s : LsOK Try.prog Try.f121.ntmps (codeOf Try.f121) [(4, k13l2), (786513, k13l1)] := loop_E 4 k13l2 k0 (join_E 786513 k13l1 k0 trivial (by kernel_rfl) (fun x => by kernel_rfl)) (by kernel_rfl) rfl (fun g x => by kernel_rfl)
noncomputable def ref16_slots_p0 (x : ((List V_api_Prov) × (List V_api_Slot) × (List V_api_Slot) × Int × Int × Unit)) : Option (V_relate_maker ⊕ Empty) :=
  Option.bind (lim ref16_slots_p0_l4_step (x.1, x.2.1, x.2.2.1, x.2.2.2.1, x.2.2.2.2.1, (0 : Int), ())) fun y3 => out1 y3
    (fun z4 =>
      some (.inl z4))
noncomputable def k13L : LCtr := ⟨[0, 1, 2, 3, 4], (.cons (.own t_api_Prov) (.cons (.val (.lst t_api_Slot)) (.cons (.val (.lst t_api_Slot)) (.cons (.val (.int .i64)) (.cons (.val (.int .i64)) .nil))))), [], [], [⟨.ret, [10], (.cons (.own t_api_Prov) .nil), [none]⟩], fun _ => [], ref16_slots_p0⟩
noncomputable def ref16_slots_p0_c : PI := mkPI Try.f121 k13L
theorem ref16_slots_p0_ok : PIOK Try.prog 121 ref16_slots_p0_c := proc_E k0 Try.func121 k13s (by kernel_rfl) (fun x => by kernel_rfl)
/-! ### easement/easementref16.Flow: function 79 -/
noncomputable def k14 : FE Try.prog := ⟨[(69, ref15_Shape_c)], [(121, [ref16_slots_p0_c])], [], [], ⟨ref15_Shape_ok, trivial⟩, ⟨⟨ref16_slots_p0_ok, trivial⟩, trivial⟩, trivial⟩
noncomputable def ref16_Flow (x : (V_api_Type × V_api_Type × Int × Int × Unit)) : Option ((List V_api_Prov) × Int × Unit) :=
  Option.bind (ref15_Shape (x.1, x.2.1, ())) fun y1 =>
  cond (!y1.1)
    (some (([] : List V_api_Prov), (8 : Int), ()))
    (Option.bind (ref16_slots_p0 (([] : List V_api_Prov), x.1.1, x.2.1.1, x.2.2)) fun y2 => out1 y2
      (fun z3 =>
        some (z3.1, (0 : Int), ())))
noncomputable def ref16_Flow_c : Ctr := ⟨(.cons t_api_Type (.cons t_api_Type (.cons (.int .i64) (.cons (.int .i64) .nil)))), (.cons (.lst t_api_Prov) (.cons (.int .i64) .nil)), ref16_Flow, none⟩
theorem ref16_Flow_ok : CtrOK Try.prog 79 ref16_Flow_c := fun_E (ls := []) k14 Try.func79 trivial (by kernel_rfl) (fun x => by kernel_rfl)
/-! ### easement/easementref15.Ref: function 123 -/
noncomputable def ref15_Ref_l6_step (g : (V_api_Type × Bool × (List V_api_Slot) × Int × Unit) → Option (((List V_api_Slot) × V_api_Type × Unit) ⊕ Empty)) (x : (V_api_Type × Bool × (List V_api_Slot) × Int × Unit)) : Option (((List V_api_Slot) × V_api_Type × Unit) ⊕ Empty) :=
  cond (decide (x.2.2.2.1 < (x.1.1.length : Int)))
    (ck (inB x.2.2.2.1 (x.1.1.length)) <|
    ck (inB x.2.2.2.1 (x.1.1.length)) <|
    let v1 := x.2.2.1 ++ [((rdL t_api_Slot x.1.1 x.2.2.2.1).1, cond (rdL t_api_Slot x.1.1 x.2.2.2.1).2.1 true x.2.1, ())]
    ck (roomB v1.length 19) <|
    g (x.1, x.2.1, v1, IntKind.i64.wrap (x.2.2.2.1 + (1 : Int)), ()))
    (some (.inl (x.2.2.1, x.1, ())))
noncomputable def k15l1 : LCtr := ⟨[3, 2, 7, 8], (.cons (.ptr (.cons (.val (.lst t_api_Slot)) .nil)) (.cons (.val .bool) (.cons (.own t_api_Slot) (.cons (.val (.int .i64)) .nil)))), [some 0, none], [6], [⟨(.exit 0), [7, 3], (.cons (.own t_api_Slot) (.cons (.ptr (.cons (.val (.lst t_api_Slot)) .nil)) .nil)), [none, some 0]⟩], fun _ => [], lim ref15_Ref_l6_step⟩
theorem k15s : LsOK Try.prog Try.f123.ntmps (codeOf Try.f123) [(6, k15l1)] := loop_E 6 k15l1 k0 trivial (by kernel_rfl) rfl (fun g x => by kernel_rfl)
noncomputable def ref15_Ref (x : (V_api_Type × Int × Bool × Unit)) : Option (V_api_Type × Unit) :=
  Option.bind (lim ref15_Ref_l6_step (x.1, x.2.2.1, [(x.2.1, false, ())], (0 : Int), ())) fun y1 => out1 y1
    (fun z2 =>
      some ((z2.1, ()), ()))
noncomputable def ref15_Ref_c : Ctr := ⟨(.cons t_api_Type (.cons (.int .i64) (.cons .bool .nil))), (.cons t_api_Type .nil), ref15_Ref, none⟩
theorem ref15_Ref_ok : CtrOK Try.prog 123 ref15_Ref_c := fun_E k0 Try.func123 k15s (by kernel_rfl) (fun x => by kernel_rfl)
/-! ### easement/easementref16.Loan: function 85 -/
noncomputable def k16 : FE Try.prog := ⟨[(123, ref15_Ref_c), (69, ref15_Shape_c)], [(121, [ref16_slots_p0_c])], [], [], ⟨ref15_Ref_ok, ref15_Shape_ok, trivial⟩, ⟨⟨ref16_slots_p0_ok, trivial⟩, trivial⟩, trivial⟩
noncomputable def ref16_Loan (x : (V_api_Type × V_api_Type × Int × Bool × Unit)) : Option ((List V_api_Prov) × Int × Unit) :=
  Option.bind (ref15_Ref (x.1, x.2.2)) fun y1 =>
  Option.bind (ref15_Shape (y1.1, x.2.1, ())) fun y2 =>
  cond (!y2.1)
    (some (([] : List V_api_Prov), (8 : Int), ()))
    (ck (inB (0 : Int) (x.2.1.1.length)) <|
    ck (decide (0 ≤ (1 : Int)) && decide ((1 : Int) ≤ x.2.1.1.length)) <|
    Option.bind (ref16_slots_p0 ([(x.2.2.1, (rdL t_api_Slot x.2.1.1 (0 : Int)).1, (2 : Int), (0 : Int), false, ())], x.1.1, x.2.1.1.drop (1 : Int).toNat, (1 : Int), (1 : Int), ())) fun y3 => out1 y3
      (fun z4 =>
        some (z4.1, (0 : Int), ())))
noncomputable def ref16_Loan_c : Ctr := ⟨(.cons t_api_Type (.cons t_api_Type (.cons (.int .i64) (.cons .bool .nil)))), (.cons (.lst t_api_Prov) (.cons (.int .i64) .nil)), ref16_Loan, none⟩
theorem ref16_Loan_ok : CtrOK Try.prog 85 ref16_Loan_c := fun_E (ls := []) k16 Try.func85 trivial (by kernel_rfl) (fun x => by kernel_rfl)
/-! ### easement/easementref16.Again: function 86 -/
noncomputable def k17 : FE Try.prog := ⟨[(69, ref15_Shape_c)], [(121, [ref16_slots_p0_c])], [], [], ⟨ref15_Shape_ok, trivial⟩, ⟨⟨ref16_slots_p0_ok, trivial⟩, trivial⟩, trivial⟩
noncomputable def ref16_Again_l8_step (g : (V_api_Type × Bool × Int × Unit) → Option T8) (x : (V_api_Type × Bool × Int × Unit)) : Option T8 :=
  cond (decide (x.2.2.1 < (x.1.1.length : Int)))
    (ck ((inB x.2.2.1 (x.1.1.length)) || !x.2.1) <|
    cond (cond x.2.1 (!(rdL t_api_Slot x.1.1 x.2.2.1).2.1) false)
      (some (.inl (([] : List V_api_Prov), (8 : Int), x.1, ())))
      (g (x.1, x.2.1, IntKind.i64.wrap (x.2.2.1 + (1 : Int)), ())))
    (some (.inr (.inl (x.1, ()))))
noncomputable def k17l1 : LCtr := ⟨[4, 3, 10], (.cons (.ptr (.cons (.val (.lst t_api_Slot)) .nil)) (.cons (.val .bool) (.cons (.val (.int .i64)) .nil))), [some 0], [2, 4, 5], [⟨.ret, [8, 9, 4], (.cons (.own t_api_Prov) (.cons (.val (.int .i64)) (.cons (.ptr (.cons (.val (.lst t_api_Slot)) .nil)) .nil))), [none, some 0]⟩, ⟨(.exit 0), [4], (.cons (.ptr (.cons (.val (.lst t_api_Slot)) .nil)) .nil), [some 0]⟩], fun _ => [], lim ref16_Again_l8_step⟩
theorem k17s : LsOK Try.prog Try.f86.ntmps (codeOf Try.f86) [(8, k17l1)] := loop_E 8 k17l1 k17 trivial (by kernel_rfl) rfl (fun g x => by kernel_rfl)
noncomputable def ref16_Again (x : (V_api_Type × V_api_Type × Int × Bool × Unit)) : Option ((List V_api_Prov) × Int × Unit) :=
  cond (!((x.1.1.length : Int) == (0 : Int)))
    (Option.bind (ref15_Shape (x.1, x.2.1, ())) fun y1 =>
    ck ((inB (0 : Int) (x.1.1.length)) || !(!(!y1.1))) <|
    cond (cond (!y1.1) true (rdL t_api_Slot x.1.1 (0 : Int)).2.1)
      (some (([] : List V_api_Prov), (8 : Int), ()))
      (Option.bind (lim ref16_Again_l8_step (x.1, x.2.2.2.1, (1 : Int), ())) fun y2 => out2 y2
        (fun z3 =>
          some (z3.1, z3.2.1, ()))
        (fun z4 =>
          ck (inB (0 : Int) (z4.1.1.length)) <|
          ck (inB (0 : Int) (x.2.1.1.length)) <|
          ck (decide (0 ≤ (1 : Int)) && decide ((1 : Int) ≤ z4.1.1.length)) <|
          ck (decide (0 ≤ (1 : Int)) && decide ((1 : Int) ≤ x.2.1.1.length)) <|
          Option.bind (ref16_slots_p0 ([((rdL t_api_Slot z4.1.1 (0 : Int)).1, x.2.2.1, (3 : Int), (0 : Int), false, ()), (x.2.2.1, (rdL t_api_Slot x.2.1.1 (0 : Int)).1, (2 : Int), (0 : Int), false, ())], z4.1.1.drop (1 : Int).toNat, x.2.1.1.drop (1 : Int).toNat, (1 : Int), (1 : Int), ())) fun y5 => out1 y5
            (fun z6 =>
              some (z6.1, (0 : Int), ())))))
    (ck ((inB (0 : Int) (x.1.1.length)) || !false) <|
    some (([] : List V_api_Prov), (8 : Int), ()))
noncomputable def ref16_Again_c : Ctr := ⟨(.cons t_api_Type (.cons t_api_Type (.cons (.int .i64) (.cons .bool .nil)))), (.cons (.lst t_api_Prov) (.cons (.int .i64) .nil)), ref16_Again, none⟩
theorem ref16_Again_ok : CtrOK Try.prog 86 ref16_Again_c := fun_E k17 Try.func86 k17s (by kernel_rfl) (fun x => by kernel_rfl)
/-! ### easement/easementref18.Needs: function 55 -/
noncomputable def k18 : FE Try.prog := ⟨[(81, ref18_Form_c), (82, ref18_Dst_c), (83, ref18_Src_c), (84, ref18_Region_c), (79, ref16_Flow_c), (85, ref16_Loan_c), (86, ref16_Again_c)], [], [], [], ⟨ref18_Form_ok, ref18_Dst_ok, ref18_Src_ok, ref18_Region_ok, ref16_Flow_ok, ref16_Loan_ok, ref16_Again_ok, trivial⟩, trivial, trivial⟩
noncomputable def ref18_Needs (x : (V_api_Prov × (List V_api_Type) × Int × Unit)) : Option ((List V_api_Prov) × Int × Unit) :=
  Option.bind (ref18_Form (x.1, ())) fun y1 =>
  cond (!y1.1)
    (some (([] : List V_api_Prov), (3 : Int), ()))
    (Option.bind (ref18_Dst (x.1.1, ())) fun y2 =>
    cond (!(cond y2.1 (cond (decide (x.1.2.1 < (0 : Int))) true (decide (x.1.2.1 ≥ (x.2.1.length : Int)))) false))
      (Option.bind (ref18_Src (x.1.1, ())) fun y3 =>
      cond (!(cond y3.1 (cond (decide (x.1.2.2.1 < (0 : Int))) true (decide (x.1.2.2.1 ≥ (x.2.1.length : Int)))) false))
        (Option.bind (ref18_Region (x.1.1, ())) fun y4 =>
        cond (cond y4.1 (cond (decide (x.1.2.2.2.1 < (0 : Int))) true (decide (x.1.2.2.2.1 ≥ x.2.2.1))) false)
          (some (([] : List V_api_Prov), (7 : Int), ()))
          (cond (x.1.1 == (1 : Int))
            (ck (inB x.1.2.2.1 (x.2.1.length)) <|
            ck (inB x.1.2.1 (x.2.1.length)) <|
            Option.bind (ref16_Flow (rdL t_api_Type x.2.1 x.1.2.2.1, rdL t_api_Type x.2.1 x.1.2.1, (1 : Int), (0 : Int), ())) fun y5 =>
            some y5)
            (cond (x.1.1 == (2 : Int))
              (ck (inB x.1.2.2.1 (x.2.1.length)) <|
              ck (inB x.1.2.1 (x.2.1.length)) <|
              Option.bind (ref16_Loan (rdL t_api_Type x.2.1 x.1.2.2.1, rdL t_api_Type x.2.1 x.1.2.1, x.1.2.2.2)) fun y6 =>
              some y6)
              (cond (x.1.1 == (3 : Int))
                (ck (inB x.1.2.2.1 (x.2.1.length)) <|
                ck (inB x.1.2.1 (x.2.1.length)) <|
                Option.bind (ref16_Again (rdL t_api_Type x.2.1 x.1.2.2.1, rdL t_api_Type x.2.1 x.1.2.1, x.1.2.2.2)) fun y7 =>
                some y7)
                (some (([] : List V_api_Prov), (0 : Int), ()))))))
        (some (([] : List V_api_Prov), (7 : Int), ())))
      (some (([] : List V_api_Prov), (7 : Int), ())))
noncomputable def ref18_Needs_c : Ctr := ⟨(.cons t_api_Prov (.cons (.lst t_api_Type) (.cons (.int .i64) .nil))), (.cons (.lst t_api_Prov) (.cons (.int .i64) .nil)), ref18_Needs, none⟩
theorem ref18_Needs_ok : CtrOK Try.prog 55 ref18_Needs_c := fun_E (ls := []) k18 Try.func55 trivial (by kernel_rfl) (fun x => by kernel_rfl)
/-! ### easement/easementref19.Form: function 77 -/
noncomputable def ref19_Form (x : (V_api_Term × Unit)) : Option (Int × Unit) :=
  cond (cond (decide (x.1.1 < (1 : Int))) true (decide (x.1.1 > (4 : Int))))
    (some ((3 : Int), ()))
    (cond (cond (cond (cond (cond (x.1.1 == (1 : Int)) true (x.1.1 == (4 : Int))) ((x.1.2.2.2.1.length : Int) != (1 : Int)) false) true (cond (x.1.1 == (2 : Int)) ((x.1.2.2.2.1.length : Int) == (0 : Int)) false)) true (cond (x.1.1 == (3 : Int)) ((x.1.2.2.2.1.length : Int) != (0 : Int)) false))
      (some ((3 : Int), ()))
      (cond (cond (x.1.1 != (4 : Int)) (cond (cond (x.1.2.1 != (0 : Int)) true (x.1.2.2.1 != (0 : Int))) true ((x.1.2.2.2.2.2.1.length : Int) != (0 : Int))) false)
        (some ((3 : Int), ()))
        (cond (cond (cond (x.1.1 == (1 : Int)) true (x.1.1 == (3 : Int))) ((x.1.2.2.2.2.1.length : Int) != (0 : Int)) false)
          (some ((3 : Int), ()))
          (cond (cond (cond (decide ((x.1.2.2.2.1.length : Int) > (16 : Int))) true (decide ((x.1.2.2.2.2.1.length : Int) > (16 : Int)))) true (decide ((x.1.2.2.2.2.2.1.length : Int) > (16 : Int))))
            (some ((6 : Int), ()))
            (some ((0 : Int), ()))))))
noncomputable def ref19_Form_c : Ctr := ⟨(.cons t_api_Term .nil), (.cons (.int .i64) .nil), ref19_Form, none⟩
theorem ref19_Form_ok : CtrOK Try.prog 77 ref19_Form_c := fun_E (ls := []) k0 Try.func77 trivial (by kernel_rfl) (fun x => by kernel_rfl)
/-! ### easement/easementref19.within: function 78 -/
noncomputable def ref19_within_l4_step (g : ((List Int) × Int × Int × Unit) → Option ((Bool × Unit) ⊕ (Unit ⊕ Empty))) (x : ((List Int) × Int × Int × Unit)) : Option ((Bool × Unit) ⊕ (Unit ⊕ Empty)) :=
  cond (decide (x.2.2.1 < (x.1.length : Int)))
    (ck (inB x.2.2.1 (x.1.length)) <|
    let v1 := decide ((rdL (.int .i64) x.1 x.2.2.1) < (0 : Int))
    ck ((inB x.2.2.1 (x.1.length)) || !(!v1)) <|
    cond (cond v1 true (decide ((rdL (.int .i64) x.1 x.2.2.1) ≥ x.2.1)))
      (some (.inl (false, ())))
      (g (x.1, x.2.1, IntKind.i64.wrap (x.2.2.1 + (1 : Int)), ())))
    (some (.inr (.inl ())))
noncomputable def k20l1 : LCtr := ⟨[0, 1, 5], (.cons (.val (.lst (.int .i64))) (.cons (.val (.int .i64)) (.cons (.val (.int .i64)) .nil))), [], [], [⟨.ret, [4], (.cons (.val .bool) .nil), []⟩, ⟨(.exit 0), [], .nil, []⟩], fun _ => [], lim ref19_within_l4_step⟩
theorem k20s : LsOK Try.prog Try.f78.ntmps (codeOf Try.f78) [(4, k20l1)] := loop_E 4 k20l1 k0 trivial (by kernel_rfl) rfl (fun g x => by kernel_rfl)
noncomputable def ref19_within (x : ((List Int) × Int × Unit)) : Option (Bool × Unit) :=
  Option.bind (lim ref19_within_l4_step (x.1, x.2.1, (0 : Int), ())) fun y1 => out2 y1
    (fun z2 =>
      some z2)
    (fun z3 =>
      some (true, ()))
noncomputable def ref19_within_c : Ctr := ⟨(.cons (.lst (.int .i64)) (.cons (.int .i64) .nil)), (.cons .bool .nil), ref19_within, none⟩
theorem ref19_within_ok : CtrOK Try.prog 78 ref19_within_c := fun_E k0 Try.func78 k20s (by kernel_rfl) (fun x => by kernel_rfl)
/-! ### easement/easementref15.Subst: function 122 -/
noncomputable def ref15_Subst_l6_step (g : T9 → Option T10) (x : T9) : Option T10 :=
  cond (decide (x.2.2.2.2.1 < (x.1.1.length : Int)))
    (ck (inB x.2.2.2.2.1 (x.1.1.length)) <|
    let v1 := (rdL t_api_Slot x.1.1 x.2.2.2.2.1).1
    cond (cond (decide (v1 < (0 : Int))) true (decide (v1 ≥ (x.2.2.1.length : Int))))
      (some (.inl ((7 : Int), x.1, ((), ()), x.2.2.2.1, ())))
      (ck (inB v1 (x.2.2.1.length)) <|
      ck (inB x.2.2.2.2.1 (x.1.1.length)) <|
      let v2 := x.2.2.2.1 ++ [(rdL (.int .i64) x.2.2.1 v1, (rdL t_api_Slot x.1.1 x.2.2.2.2.1).2)]
      ck (roomB v2.length 19) <|
      g (x.1, x.2.1, x.2.2.1, v2, IntKind.i64.wrap (x.2.2.2.2.1 + (1 : Int)), ())))
    (some (.inr (.inl (x.2.2.2.1, x.1, x.2.1, ()))))
noncomputable def k21l1 : LCtr := ⟨[2, 4, 1, 6, 7], (.cons (.ptr (.cons (.val (.lst t_api_Slot)) .nil)) (.cons (.ptr (.cons (.own t_api_Slot) .nil)) (.cons (.val (.lst (.int .i64))) (.cons (.own t_api_Slot) (.cons (.val (.int .i64)) .nil))))), [some 0, some 1, some 2, none], [4], [⟨.ret, [5, 2, 4, 6], (.cons (.val (.int .i64)) (.cons (.ptr (.cons (.val (.lst t_api_Slot)) .nil)) (.cons (.ptr (.cons (.cst false) .nil)) (.cons (.own t_api_Slot) .nil)))), [some 0, some 1, none]⟩, ⟨(.exit 0), [6, 2, 4], (.cons (.own t_api_Slot) (.cons (.ptr (.cons (.val (.lst t_api_Slot)) .nil)) (.cons (.ptr (.cons (.own t_api_Slot) .nil)) .nil))), [none, some 0, some 1, some 2]⟩], fun _ => [], lim ref15_Subst_l6_step⟩
theorem k21s : LsOK Try.prog Try.f122.ntmps (codeOf Try.f122) [(6, k21l1)] := loop_E 6 k21l1 k0 trivial (by kernel_rfl) rfl (fun g x => by kernel_rfl)
noncomputable def ref15_Subst (x : (V_api_Type × (List Int) × Unit)) : Option (V_api_Type × Int × Unit) :=
  Option.bind (lim ref15_Subst_l6_step (x.1, (([] : List V_api_Slot), ()), x.2.1, ([] : List V_api_Slot), (0 : Int), ())) fun y1 => out2 y1
    (fun z2 =>
      some ((([] : List V_api_Slot), ()), z2.1, ()))
    (fun z3 =>
      some ((z3.1, ()), (0 : Int), ()))
noncomputable def ref15_Subst_c : Ctr := ⟨(.cons t_api_Type (.cons (.lst (.int .i64)) .nil)), (.cons t_api_Type (.cons (.int .i64) .nil)), ref15_Subst, none⟩
theorem ref15_Subst_ok : CtrOK Try.prog 122 ref15_Subst_c := fun_E k0 Try.func122 k21s (by kernel_rfl) (fun x => by kernel_rfl)
/-! ### easement/easementref17.Call: function 80 -/
noncomputable def k22 : FE Try.prog := ⟨[(70, ref17_Check_c), (122, ref15_Subst_c), (79, ref16_Flow_c)], [], [], [], ⟨ref17_Check_ok, ref15_Subst_ok, ref16_Flow_ok, trivial⟩, trivial, trivial⟩
noncomputable def ref17_Call_l16_step (g : (V_api_Sig × (List Int) × (List V_api_Prov) × Int × Unit) → Option (((List V_api_Prov) × V_api_Sig × Unit) ⊕ Empty)) (x : (V_api_Sig × (List Int) × (List V_api_Prov) × Int × Unit)) : Option (((List V_api_Prov) × V_api_Sig × Unit) ⊕ Empty) :=
  cond (decide (x.2.2.2.1 < (x.1.2.1.length : Int)))
    (ck (inB x.2.2.2.1 (x.1.2.1.length)) <|
    let v1 := (rdL t_easementref08_Pair x.1.2.1 x.2.2.2.1).1
    ck (inB v1 (x.2.1.length)) <|
    ck (inB x.2.2.2.1 (x.1.2.1.length)) <|
    let v2 := (rdL t_easementref08_Pair x.1.2.1 x.2.2.2.1).2.1
    ck (inB v2 (x.2.1.length)) <|
    let v3 := x.2.2.1 ++ [(rdL (.int .i64) x.2.1 v1, rdL (.int .i64) x.2.1 v2, (4 : Int), x.2.2.2.1, false, ())]
    ck (roomB v3.length 46) <|
    g (x.1, x.2.1, v3, IntKind.i64.wrap (x.2.2.2.1 + (1 : Int)), ()))
    (some (.inl (x.2.2.1, x.1, ())))
noncomputable def k22l1 : LCtr := ⟨[4, 1, 11, 12], (.cons (.ptr q1) (.cons (.val (.lst (.int .i64))) (.cons (.own t_api_Prov) (.cons (.val (.int .i64)) .nil)))), [some 0, none], [1, 2, 4, 7], [⟨(.exit 0), [11, 4], (.cons (.own t_api_Prov) (.cons (.ptr q1) .nil)), [none, some 0]⟩], fun _ => [], lim ref17_Call_l16_step⟩
noncomputable def ref17_Call_l24_step (g : T11 → Option T12) (x : T11) : Option T12 :=
  cond (decide (x.2.2.2.2.1 < (x.1.2.2.1.length : Int)))
    (ck (inB x.2.2.2.2.1 (x.1.2.2.1.length)) <|
    Option.bind (ref15_Subst (rdL t_api_Type x.1.2.2.1 x.2.2.2.2.1, x.2.1, ())) fun y4 =>
    ck (inB x.2.2.2.2.1 (x.2.2.1.length)) <|
    Option.bind (ref16_Flow (rdL t_api_Type x.2.2.1 x.2.2.2.2.1, y4.1, (5 : Int), IntKind.i64.wrap ((16 : Int) * x.2.2.2.2.1), ())) fun y5 =>
    cond (y5.2.1 != (0 : Int))
      (some (.inl (([] : List V_api_Prov), y5.2.1, x.1, x.2.2.2.1, ())))
      (ck (roomB (x.2.2.2.1 ++ y5.1).length 46) <|
      g (x.1, x.2.1, x.2.2.1, x.2.2.2.1 ++ y5.1, IntKind.i64.wrap (x.2.2.2.2.1 + (1 : Int)), ())))
    (some (.inr (.inl (x.2.2.2.1, x.1, ()))))
noncomputable def k22l2 : LCtr := ⟨[4, 1, 2, 11, 13], (.cons (.ptr q1) (.cons (.val (.lst (.int .i64))) (.cons (.val (.lst t_api_Type)) (.cons (.own t_api_Prov) (.cons (.val (.int .i64)) .nil))))), [some 0, none], [1, 4, 7], [⟨.ret, [8, 9, 4, 11], (.cons (.own t_api_Prov) (.cons (.val (.int .i64)) (.cons (.ptr q1) (.cons (.own t_api_Prov) .nil)))), [none, some 0, none]⟩, ⟨(.exit 2), [11, 4], (.cons (.own t_api_Prov) (.cons (.ptr q1) .nil)), [none, some 0]⟩], fun _ => [], lim ref17_Call_l24_step⟩
theorem k22s : LsOK Try.prog Try.f80.ntmps (codeOf Try.f80) [(24, k22l2), (16, k22l1)] := loop_E 24 k22l2 k22 (loop_E 16 k22l1 k22 trivial (by kernel_rfl) rfl (fun g x => by kernel_rfl)) (by kernel_rfl) rfl (fun g x => by kernel_rfl)
noncomputable def ref17_Call (x : T13) : Option ((List V_api_Prov) × Int × Unit) :=
  Option.bind (ref17_Check (x.1, ())) fun y1 =>
  cond (y1.1 != (0 : Int))
    (some (([] : List V_api_Prov), y1))
    (cond (cond ((x.2.1.length : Int) != x.1.1) true ((x.2.2.1.length : Int) != (x.1.2.2.1.length : Int)))
      (some (([] : List V_api_Prov), (2 : Int), ()))
      (Option.bind (lim ref17_Call_l16_step (x.1, x.2.1, ([] : List V_api_Prov), (0 : Int), ())) fun y2 => out1 y2
        (fun z3 =>
          Option.bind (lim ref17_Call_l24_step (z3.2.1, x.2.1, x.2.2.1, z3.1, (0 : Int), ())) fun y6 => out2 y6
            (fun z7 =>
              some (z7.1, z7.2.1, ()))
            (fun z8 =>
              Option.bind (ref15_Subst (z8.2.1.2.2.2, x.2.1, ())) fun y9 =>
              Option.bind (ref16_Flow (y9.1, x.2.2.2.1, (6 : Int), (0 : Int), ())) fun y10 =>
              cond (y10.2.1 != (0 : Int))
                (some (([] : List V_api_Prov), y10.2))
                (ck (roomB (z8.1 ++ y10.1).length 46) <|
                some (z8.1 ++ y10.1, (0 : Int), ()))))))
noncomputable def ref17_Call_c : Ctr := ⟨(.cons t_api_Sig (.cons (.lst (.int .i64)) (.cons (.lst t_api_Type) (.cons t_api_Type .nil)))), (.cons (.lst t_api_Prov) (.cons (.int .i64) .nil)), ref17_Call, none⟩
theorem ref17_Call_ok : CtrOK Try.prog 80 ref17_Call_c := fun_E k22 Try.func80 k22s (by kernel_rfl) (fun x => by kernel_rfl)
/-! ### easement/easementref19.Needs: function 54 -/
noncomputable def k23 : FE Try.prog := ⟨[(77, ref19_Form_c), (78, ref19_within_c), (79, ref16_Flow_c), (80, ref17_Call_c)], [], [], [], ⟨ref19_Form_ok, ref19_within_ok, ref16_Flow_ok, ref17_Call_ok, trivial⟩, trivial, trivial⟩
noncomputable def ref19_Needs_l30_step (g : T14 → Option T15) (x : T14) : Option T15 :=
  cond (decide (x.2.2.2.1 < (x.1.2.2.2.2.1.length : Int)))
    (ck (inB x.2.2.2.1 (x.1.2.2.2.2.1.length)) <|
    let v1 := rdL (.int .i64) x.1.2.2.2.2.1 x.2.2.2.1
    ck (inB v1 (x.2.1.2.2.1.length)) <|
    let v2 := x.2.2.1 ++ [rdL t_api_Type x.2.1.2.2.1 v1]
    ck (roomB v2.length 26) <|
    g (x.1, x.2.1, v2, IntKind.i64.wrap (x.2.2.2.1 + (1 : Int)), ()))
    (some (.inl (x.2.2.1, x.1, x.2.1, ())))
noncomputable def k23l1 : LCtr := ⟨[2, 3, 7, 8], (.cons (.ptr q24) (.cons (.ptr q25) (.cons (.own t_api_Type) (.cons (.val (.int .i64)) .nil)))), [some 0, some 1, none], [2, 3], [⟨(.exit 0), [7, 2, 3], (.cons (.own t_api_Type) (.cons (.ptr q24) (.cons (.ptr q25) .nil))), [none, some 0, some 1]⟩], fun _ => [], lim ref19_Needs_l30_step⟩
theorem k23s : LsOK Try.prog Try.f54.ntmps (codeOf Try.f54) [(30, k23l1)] := loop_E 30 k23l1 k23 trivial (by kernel_rfl) rfl (fun g x => by kernel_rfl)
noncomputable def ref19_Needs (x : (V_api_Term × V_term_Around × Unit)) : Option ((List V_api_Prov) × Int × Unit) :=
  Option.bind (ref19_Form (x.1, ())) fun y1 =>
  cond (y1.1 != (0 : Int))
    (some (([] : List V_api_Prov), y1))
    (Option.bind (ref19_within (x.1.2.2.2.1, x.2.1.1, ())) fun y2 =>
    cond (!(!y2.1))
      (Option.bind (ref19_within (x.1.2.2.2.2.1, (x.2.1.2.2.1.length : Int), ())) fun y3 =>
      cond (!(!y3.1))
        (Option.bind (ref19_within (x.1.2.2.2.2.2.1, x.2.1.2.1, ())) fun y4 =>
        cond (!y4.1)
          (some (([] : List V_api_Prov), (7 : Int), ()))
          (cond (x.1.1 == (4 : Int))
            (Option.bind (ref19_within ([x.1.2.2.1], (x.2.1.2.2.1.length : Int), ())) fun y5 =>
            cond (!(!y5.1))
              (Option.bind (ref19_within ([x.1.2.1], (x.2.1.2.2.2.2.1.length : Int), ())) fun y6 =>
              cond (!y6.1)
                (some (([] : List V_api_Prov), (7 : Int), ()))
                (cond (cond (x.1.1 == (3 : Int)) ((x.2.1.2.2.1.length : Int) == (0 : Int)) false)
                  (some (([] : List V_api_Prov), (14 : Int), ()))
                  (cond (x.1.1 == (3 : Int))
                    (ck (inB (0 : Int) (x.2.1.2.2.1.length)) <|
                    Option.bind (ref16_Flow (rdL t_api_Type x.2.1.2.2.1 (0 : Int), (x.2.1.2.2.2.1, ()), (7 : Int), (0 : Int), ())) fun y7 =>
                    some y7)
                    (cond (x.1.1 == (4 : Int))
                      (Option.bind (lim ref19_Needs_l30_step (x.1, x.2.1, ([] : List V_api_Type), (0 : Int), ())) fun y8 => out1 y8
                        (fun z9 =>
                          ck (inB z9.2.1.2.1 (z9.2.2.1.2.2.2.2.1.length)) <|
                          ck (inB z9.2.1.2.2.1 (z9.2.2.1.2.2.1.length)) <|
                          Option.bind (ref17_Call (rdL t_api_Sig z9.2.2.1.2.2.2.2.1 z9.2.1.2.1, z9.2.1.2.2.2.2.2.1, z9.1, rdL t_api_Type z9.2.2.1.2.2.1 z9.2.1.2.2.1, ())) fun y10 =>
                          some y10))
                      (some (([] : List V_api_Prov), (0 : Int), ()))))))
              (some (([] : List V_api_Prov), (7 : Int), ())))
            (cond (cond (x.1.1 == (3 : Int)) ((x.2.1.2.2.1.length : Int) == (0 : Int)) false)
              (some (([] : List V_api_Prov), (14 : Int), ()))
              (cond (x.1.1 == (3 : Int))
                (ck (inB (0 : Int) (x.2.1.2.2.1.length)) <|
                Option.bind (ref16_Flow (rdL t_api_Type x.2.1.2.2.1 (0 : Int), (x.2.1.2.2.2.1, ()), (7 : Int), (0 : Int), ())) fun y11 =>
                some y11)
                (cond (x.1.1 == (4 : Int))
                  (Option.bind (lim ref19_Needs_l30_step (x.1, x.2.1, ([] : List V_api_Type), (0 : Int), ())) fun y12 => out1 y12
                    (fun z13 =>
                      ck (inB z13.2.1.2.1 (z13.2.2.1.2.2.2.2.1.length)) <|
                      ck (inB z13.2.1.2.2.1 (z13.2.2.1.2.2.1.length)) <|
                      Option.bind (ref17_Call (rdL t_api_Sig z13.2.2.1.2.2.2.2.1 z13.2.1.2.1, z13.2.1.2.2.2.2.2.1, z13.1, rdL t_api_Type z13.2.2.1.2.2.1 z13.2.1.2.2.1, ())) fun y14 =>
                      some y14))
                  (some (([] : List V_api_Prov), (0 : Int), ())))))))
        (some (([] : List V_api_Prov), (7 : Int), ())))
      (some (([] : List V_api_Prov), (7 : Int), ())))
noncomputable def ref19_Needs_c : Ctr := ⟨(.cons t_api_Term (.cons t_term_Around .nil)), (.cons (.lst t_api_Prov) (.cons (.int .i64) .nil)), ref19_Needs, none⟩
theorem ref19_Needs_ok : CtrOK Try.prog 54 ref19_Needs_c := fun_E k23 Try.func54 k23s (by kernel_rfl) (fun x => by kernel_rfl)
/-! ### easement/easementref21.blocks: function 46 -/
noncomputable def k24 : FE Try.prog := ⟨[(55, ref18_Needs_c), (54, ref19_Needs_c)], [], [], [], ⟨ref18_Needs_ok, ref19_Needs_ok, trivial⟩, trivial, trivial⟩
noncomputable def ref21_blocks_l14_step (g : (V_api_Body × V_valid_Fault × Int × Int × Unit) → Option T3) (x : (V_api_Body × V_valid_Fault × Int × Int × Unit)) : Option T3 :=
  cond (decide (x.2.2.2.1 < (x.1.2.2.2.2.2.2.1.length : Int)))
    (ck (inB x.2.2.2.1 (x.1.2.2.2.2.2.2.1.length)) <|
    let v1 := IntKind.i64.wrap (x.2.2.1 + ((rdL t_api_Block x.1.2.2.2.2.2.2.1 x.2.2.2.1).1.length : Int))
    cond (decide (v1 > (65536 : Int)))
      (some (.inl (x.1, ((6 : Int), (5 : Int), x.2.2.2.1, (0 : Int), ()), ())))
      (g (x.1, x.2.1, v1, IntKind.i64.wrap (x.2.2.2.1 + (1 : Int)), ())))
    (some (.inr (.inl (x.1, x.2.1, ()))))
noncomputable def k24l1 : LCtr := ⟨[1, 2, 3, 4], (.cons (.ptr q2) (.cons (.ptr q4) (.cons (.val (.int .i64)) (.cons (.val (.int .i64)) .nil)))), [some 0, some 1], [1, 2], [⟨.ret, [1, 2], (.cons (.ptr q2) (.cons (.ptr q4) .nil)), [some 0, some 1]⟩, ⟨(.exit 0), [1, 2], (.cons (.ptr q2) (.cons (.ptr q4) .nil)), [some 0, some 1]⟩], fun _ => [], lim ref21_blocks_l14_step⟩
noncomputable def ref21_blocks_l36_step (g : T16 → Option T3) (x : T16) : Option T3 :=
  cond (decide (x.2.2.2.2.1 < (x.2.2.2.1.length : Int)))
    (ck (inB x.2.2.2.2.1 (x.2.2.2.1.length)) <|
    Option.bind (ref18_Needs (rdL t_api_Prov x.2.2.2.1 x.2.2.2.2.1, x.1.2.2.2.1, x.1.2.1, ())) fun y4 =>
    cond (y4.2.1 != (0 : Int))
      (some (.inl (x.1, (y4.2.1, (6 : Int), x.2.2.1, x.2.2.2.2), ())))
      (g (x.1, x.2.1, x.2.2.1, x.2.2.2.1, IntKind.i64.wrap (x.2.2.2.2.1 + (1 : Int)), ())))
    (some (.inr (.inl (x.1, x.2.1, ()))))
noncomputable def k24l2 : LCtr := ⟨[1, 2, 6, 7, 8], (.cons (.ptr q2) (.cons (.ptr q4) (.cons (.val (.int .i64)) (.cons (.val (.lst t_api_Prov)) (.cons (.val (.int .i64)) .nil))))), [some 0, some 1], [1, 2, 5, 6], [⟨.ret, [1, 2], (.cons (.ptr q2) (.cons (.ptr q4) .nil)), [some 0, some 1]⟩, ⟨(.exit 4), [1, 2], (.cons (.ptr q2) (.cons (.ptr q4) .nil)), [some 0, some 1]⟩], fun _ => [], lim ref21_blocks_l36_step⟩
noncomputable def ref21_blocks_l28_step (g : (V_api_Body × V_valid_Fault × V_term_Around × Int × Unit) → Option T17) (x : (V_api_Body × V_valid_Fault × V_term_Around × Int × Unit)) : Option T17 :=
  cond (decide (x.2.2.2.1 < (x.1.2.2.2.2.2.2.1.length : Int)))
    (ck (inB x.2.2.2.1 (x.1.2.2.2.2.2.2.1.length)) <|
    Option.bind (lim ref21_blocks_l36_step (x.1, x.2.1, x.2.2.2.1, (rdL t_api_Block x.1.2.2.2.2.2.2.1 x.2.2.2.1).1, (0 : Int), ())) fun y5 => out2 y5
      (fun z6 =>
        some (.inl (z6.1, z6.2.1, x.2.2.1, ())))
      (fun z7 =>
        ck (inB x.2.2.2.1 (z7.1.2.2.2.2.2.2.1.length)) <|
        Option.bind (ref19_Needs ((rdL t_api_Block z7.1.2.2.2.2.2.2.1 x.2.2.2.1).2, x.2.2.1, ())) fun y8 =>
        cond (y8.2.1 != (0 : Int))
          (some (.inl (z7.1, (y8.2.1, (7 : Int), x.2.2.2.1, (0 : Int), ()), x.2.2.1, ())))
          (g (z7.1, z7.2.1, x.2.2.1, IntKind.i64.wrap (x.2.2.2.1 + (1 : Int)), ()))))
    (some (.inr (.inl (x.1, x.2.1, x.2.2.1, ()))))
noncomputable def k24l3 : LCtr := ⟨[1, 2, 5, 6], (.cons (.ptr q2) (.cons (.ptr q4) (.cons (.ptr q25) (.cons (.val (.int .i64)) .nil)))), [some 0, some 1, some 2], [2], [⟨.ret, [1, 2, 5], (.cons (.ptr q2) (.cons (.ptr q4) (.cons (.ptr q25) .nil))), [some 0, some 1, some 2]⟩, ⟨(.exit 2), [1, 2, 5], (.cons (.ptr q2) (.cons (.ptr q4) (.cons (.ptr q25) .nil))), [some 0, some 1, some 2]⟩], fun _ => [], lim ref21_blocks_l28_step⟩
theorem k24s : LsOK Try.prog Try.f46.ntmps (codeOf Try.f46) [(28, k24l3), (36, k24l2), (14, k24l1)] := loop_E 28 k24l3 k24 (loop_E 36 k24l2 k24 (loop_E 14 k24l1 k24 trivial (by kernel_rfl) rfl (fun g x => by kernel_rfl)) (by kernel_rfl) rfl (fun g x => by kernel_rfl)) (by kernel_rfl) rfl (fun g x => by kernel_rfl)
noncomputable def ref21_blocks (x : (V_api_Body × Unit)) : Option (V_valid_Fault × Unit) :=
  cond ((x.1.2.2.2.2.2.2.1.length : Int) == (0 : Int))
    (some (((14 : Int), (5 : Int), (0 : Int), (0 : Int), ()), ()))
    (cond (decide ((x.1.2.2.2.2.2.2.1.length : Int) > (65536 : Int)))
      (some (((6 : Int), (5 : Int), (0 : Int), (0 : Int), ()), ()))
      (Option.bind (lim ref21_blocks_l14_step (x.1, ((0 : Int), (0 : Int), (0 : Int), (0 : Int), ()), (0 : Int), (0 : Int), ())) fun y1 => out2 y1
        (fun z2 =>
          some z2.2)
        (fun z3 =>
          Option.bind (lim ref21_blocks_l28_step (z3.1, z3.2.1, ((z3.1.2.2.2.2.2.2.1.length : Int), z3.1.2.1, z3.1.2.2.2.1, z3.1.2.2.2.2.1, z3.1.2.2.2.2.2.1, ()), (0 : Int), ())) fun y9 => out2 y9
            (fun z10 =>
              some (z10.2.1, ()))
            (fun z11 =>
              some (((0 : Int), (0 : Int), (0 : Int), (0 : Int), ()), ())))))
noncomputable def ref21_blocks_c : Ctr := ⟨(.cons t_api_Body .nil), (.cons t_valid_Fault .nil), ref21_blocks, none⟩
theorem ref21_blocks_ok : CtrOK Try.prog 46 ref21_blocks_c := fun_E k24 Try.func46 k24s (by kernel_rfl) (fun x => by kernel_rfl)
/-! ### easement/easementref21.Check: function 24 -/
noncomputable def k25 : FE Try.prog := ⟨[(44, ref21_head_c), (45, ref21_types_c), (46, ref21_blocks_c)], [], [], [], ⟨ref21_head_ok, ref21_types_ok, ref21_blocks_ok, trivial⟩, trivial, trivial⟩
noncomputable def ref21_Check (x : (V_api_Body × Unit)) : Option (V_valid_Fault × Unit) :=
  Option.bind (ref21_head x) fun y1 =>
  cond (y1.1.1 != (0 : Int))
    (some y1)
    (Option.bind (ref21_types x) fun y2 =>
    cond (y2.1.1 != (0 : Int))
      (some y2)
      (Option.bind (ref21_blocks x) fun y3 =>
      some y3))
noncomputable def ref21_Check_c : Ctr := ⟨(.cons t_api_Body .nil), (.cons t_valid_Fault .nil), ref21_Check, none⟩
theorem ref21_Check_ok : CtrOK Try.prog 24 ref21_Check_c := fun_E (ls := []) k25 Try.func24 trivial (by kernel_rfl) (fun x => by kernel_rfl)
/-! ### easement/easementref21.OK: function 6 -/
noncomputable def k26 : FE Try.prog := ⟨[(24, ref21_Check_c)], [], [], [], ⟨ref21_Check_ok, trivial⟩, trivial, trivial⟩
noncomputable def ref21_OK (x : (V_api_Body × Unit)) : Option (Bool × Unit) :=
  Option.bind (ref21_Check x) fun y1 =>
  some (y1.1.1 == (0 : Int), ())
noncomputable def ref21_OK_c : Ctr := ⟨(.cons t_api_Body .nil), (.cons .bool .nil), ref21_OK, none⟩
theorem ref21_OK_ok : CtrOK Try.prog 6 ref21_OK_c := fun_E (ls := []) k26 Try.func6 trivial (by kernel_rfl) (fun x => by kernel_rfl)
/-! ### (*easement/tick.Counter).Add: function 74, at objects -/
noncomputable def tick_Counter_Add_p0 (x : (Unit × Int × Int × Unit)) : Option (Unit ⊕ Empty) :=
  some (.inl ())
noncomputable def k28L : LCtr := ⟨[0, 1, 2], (.cons (.cst true) (.cons (.val (.int .i64)) (.cons (.val (.int .i64)) .nil))), [], [], [⟨.ret, [], .nil, []⟩], fun _ => [], tick_Counter_Add_p0⟩
noncomputable def tick_Counter_Add_p0_c : PI := mkPI Try.f74 k28L
theorem tick_Counter_Add_p0_ok : PIOK Try.prog 74 tick_Counter_Add_p0_c := proc_E (ls := []) k0 Try.func74 trivial (by kernel_rfl) (fun x => by kernel_rfl)
/-! ### (*easement/valid.checker).wrong: function 138, at objects -/
noncomputable def k29 : FE Try.prog := ⟨[], [(74, [tick_Counter_Add_p0_c])], [], [], trivial, ⟨⟨tick_Counter_Add_p0_ok, trivial⟩, trivial⟩, trivial⟩
noncomputable def valid_checker_wrong_p0_j49_v (x : ((Int × Int × (List V_easementref08_Pair) × (List V_api_Type) × (List V_api_Slot) × (List V_api_Sig) × (List V_api_Block) × Unit × Int × Int × Int × Int × Unit) × Int × Int × Int × Int × Bool × Unit)) : Option T19 :=
  cond (x.2.2.2.2.2.1)
    (some (.inl ((x.1.1, x.1.2.1, x.1.2.2.1, x.1.2.2.2.1, x.1.2.2.2.2.1, x.1.2.2.2.2.2.1, x.1.2.2.2.2.2.2.1, (), x.2.1, x.2.2.1, x.2.2.2.1, x.2.2.2.2.1, ()), ())))
    (some (.inl ((x.1.1, x.1.2.1, x.1.2.2.1, x.1.2.2.2.1, x.1.2.2.2.2.1, x.1.2.2.2.2.2.1, x.1.2.2.2.2.2.2.1, (), x.1.2.2.2.2.2.2.2.2), ())))
noncomputable def k29l1 : LCtr := ⟨[0, 1, 2, 3, 4, 24], (.cons (.ptr q31) (.cons (.val (.int .i64)) (.cons (.val (.int .i64)) (.cons (.val (.int .i64)) (.cons (.val (.int .i64)) (.cons (.val .bool) .nil)))))), [], [0, 1, 2, 3, 4], [⟨.normal, [0], (.cons (.ptr q31) .nil), [some 0]⟩], fun _ => [], valid_checker_wrong_p0_j49_v⟩
theorem k29s : LsOK Try.prog Try.f138.ntmps (codeOf Try.f138) [(262193, k29l1)] := join_E 262193 k29l1 k29 trivial (by kernel_rfl) (fun x => by kernel_rfl)
noncomputable def valid_checker_wrong_p0 (x : ((Int × Int × (List V_easementref08_Pair) × (List V_api_Type) × (List V_api_Slot) × (List V_api_Sig) × (List V_api_Block) × Unit × Int × Int × Int × Int × Unit) × Int × Int × Int × Int × Unit)) : Option T19 :=
  Option.bind (tick_Counter_Add_p0 ((), (1 : Int), (1 : Int), ())) fun y1 => out1 y1
    (fun z2 =>
      Option.bind (valid_checker_wrong_p0_j49_v ((x.1.1, x.1.2.1, x.1.2.2.1, x.1.2.2.2.1, x.1.2.2.2.2.1, x.1.2.2.2.2.2.1, x.1.2.2.2.2.2.2.1, (), x.1.2.2.2.2.2.2.2.2), x.2.1, x.2.2.1, x.2.2.2.1, x.2.2.2.2.1, cond (x.1.2.2.2.2.2.2.2.2.1 == (0 : Int)) (x.2.1 != (0 : Int)) false, ())) fun y3 => out1 y3
        (fun z4 =>
          some (.inl ((z4.1.1, z4.1.2.1, z4.1.2.2.1, z4.1.2.2.2.1, z4.1.2.2.2.2.1, z4.1.2.2.2.2.2.1, z4.1.2.2.2.2.2.2.1, (), z4.1.2.2.2.2.2.2.2.2), ()))))
noncomputable def k29L : LCtr := ⟨[0, 1, 2, 3, 4], (.cons (.ptr q31) (.cons (.val (.int .i64)) (.cons (.val (.int .i64)) (.cons (.val (.int .i64)) (.cons (.val (.int .i64)) .nil))))), [], [], [⟨.normal, [0], (.cons (.ptr q31) .nil), [some 0]⟩], fun _ => [], valid_checker_wrong_p0⟩
noncomputable def valid_checker_wrong_p0_c : PI := mkPI Try.f138 k29L
theorem valid_checker_wrong_p0_ok : PIOK Try.prog 138 valid_checker_wrong_p0_c := proc_E k29 Try.func138 k29s (by kernel_rfl) (fun x => by kernel_rfl)
/-! ### easement/valid.many: function 139 -/
noncomputable def valid_many (x : (Int × Unit)) : Option (Int × Unit) :=
  cond (decide (x.1 > (65536 : Int)))
    (some ((6 : Int), ()))
    (some ((0 : Int), ()))
noncomputable def valid_many_c : Ctr := ⟨(.cons (.int .i64) .nil), (.cons (.int .i64) .nil), valid_many, none⟩
theorem valid_many_ok : CtrOK Try.prog 139 valid_many_c := fun_E (ls := []) k0 Try.func139 trivial (by kernel_rfl) (fun x => by kernel_rfl)
/-! ### (*easement/valid.checker).head: function 110, at objects -/
noncomputable def k31 : FE Try.prog := ⟨[(139, valid_many_c)], [(138, [valid_checker_wrong_p0_c])], [], [], ⟨valid_many_ok, trivial⟩, ⟨⟨valid_checker_wrong_p0_ok, trivial⟩, trivial⟩, trivial⟩
noncomputable def valid_checker_head_p0_j29_v (x : ((Int × Int × (List V_easementref08_Pair) × (List V_api_Type) × (List V_api_Slot) × (List V_api_Sig) × (List V_api_Block) × Unit × Int × Int × Int × Int × Unit) × V_api_Body × Bool × Unit)) : Option T22 :=
  cond (x.2.2.1)
    (Option.bind (valid_checker_wrong_p0 ((x.1.1, x.1.2.1, x.1.2.2.1, x.1.2.2.2.1, x.1.2.2.2.2.1, x.1.2.2.2.2.2.1, x.1.2.2.2.2.2.2.1, (), x.1.2.2.2.2.2.2.2.2), (7 : Int), (0 : Int), (0 : Int), (0 : Int), ())) fun y1 => out1 y1
      (fun z2 =>
        some (.inl ((z2.1.1, z2.1.2.1, z2.1.2.2.1, z2.1.2.2.2.1, z2.1.2.2.2.2.1, z2.1.2.2.2.2.2.1, z2.1.2.2.2.2.2.2.1, (), z2.1.2.2.2.2.2.2.2.2), x.2.1, ()))))
    (Option.bind (valid_many (x.2.1.2.1, ())) fun y3 =>
    Option.bind (valid_checker_wrong_p0 ((x.1.1, x.1.2.1, x.1.2.2.1, x.1.2.2.2.1, x.1.2.2.2.2.1, x.1.2.2.2.2.2.1, x.1.2.2.2.2.2.2.1, (), x.1.2.2.2.2.2.2.2.2), y3.1, (0 : Int), (0 : Int), (0 : Int), ())) fun y4 => out1 y4
      (fun z5 =>
        some (.inl ((z5.1.1, z5.1.2.1, z5.1.2.2.1, z5.1.2.2.2.1, z5.1.2.2.2.2.1, z5.1.2.2.2.2.2.1, z5.1.2.2.2.2.2.2.1, (), z5.1.2.2.2.2.2.2.2.2), x.2.1, ()))))
noncomputable def k31l1 : LCtr := ⟨[0, 2, 14], (.cons (.ptr q31) (.cons (.ptr q2) (.cons (.val .bool) .nil))), [], [0, 2], [⟨.normal, [0, 2], (.cons (.ptr q31) (.cons (.ptr q2) .nil)), [some 0, some 1]⟩], fun _ => [], valid_checker_head_p0_j29_v⟩
noncomputable def valid_checker_head_p0_j125_v (x : ((Int × Int × (List V_easementref08_Pair) × (List V_api_Type) × (List V_api_Slot) × (List V_api_Sig) × (List V_api_Block) × Unit × Int × Int × Int × Int × Unit) × Int × Bool × Unit)) : Option T19 :=
  cond (x.2.2.1)
    (Option.bind (valid_checker_wrong_p0 ((x.1.1, x.1.2.1, x.1.2.2.1, x.1.2.2.2.1, x.1.2.2.2.2.1, x.1.2.2.2.2.2.1, x.1.2.2.2.2.2.2.1, (), x.1.2.2.2.2.2.2.2.2), (7 : Int), (1 : Int), x.2.1, (0 : Int), ())) fun y11 => out1 y11
      (fun z12 =>
        some (.inl ((z12.1.1, z12.1.2.1, z12.1.2.2.1, z12.1.2.2.2.1, z12.1.2.2.2.2.1, z12.1.2.2.2.2.2.1, z12.1.2.2.2.2.2.2.1, (), z12.1.2.2.2.2.2.2.2.2), ()))))
    (some (.inl ((x.1.1, x.1.2.1, x.1.2.2.1, x.1.2.2.2.1, x.1.2.2.2.2.1, x.1.2.2.2.2.2.1, x.1.2.2.2.2.2.2.1, (), x.1.2.2.2.2.2.2.2.2), ())))
noncomputable def k31l2 : LCtr := ⟨[0, 3, 62], (.cons (.ptr q31) (.cons (.val (.int .i64)) (.cons (.val .bool) .nil))), [], [0, 2, 34, 35, 36], [⟨.normal, [0], (.cons (.ptr q31) .nil), [some 0]⟩], fun _ => [], valid_checker_head_p0_j125_v⟩
noncomputable def valid_checker_head_p0_l12_step (g : T24 → Option T22) (x : T24) : Option T22 :=
  cond (decide (x.2.2.2.2.1 < x.2.2.2.1))
    (ck (inB x.2.2.2.2.1 (x.2.2.1.length)) <|
    let v1 := rdL t_easementref08_Pair x.2.2.1 x.2.2.2.2.1
    Option.bind (valid_checker_head_p0_j125_v ((x.1.1, x.1.2.1, x.1.2.2.1, x.1.2.2.2.1, x.1.2.2.2.2.1, x.1.2.2.2.2.2.1, x.1.2.2.2.2.2.2.1, (), x.1.2.2.2.2.2.2.2.2), x.2.2.2.2.1, cond (cond (cond (decide (v1.1 < (0 : Int))) true (decide (v1.1 ≥ x.2.1.1))) true (decide (v1.2.1 < (0 : Int)))) true (decide (v1.2.1 ≥ x.2.1.1)), ())) fun y13 => out1 y13
      (fun z14 =>
        g ((z14.1.1, z14.1.2.1, z14.1.2.2.1, z14.1.2.2.2.1, z14.1.2.2.2.2.1, z14.1.2.2.2.2.2.1, z14.1.2.2.2.2.2.2.1, (), z14.1.2.2.2.2.2.2.2.2), x.2.1, x.2.2.1, x.2.2.2.1, IntKind.i64.wrap (x.2.2.2.2.1 + (1 : Int)), ())))
    (some (.inl ((x.1.1, x.1.2.1, x.1.2.2.1, x.1.2.2.2.1, x.1.2.2.2.2.1, x.1.2.2.2.2.2.1, x.1.2.2.2.2.2.2.1, (), x.1.2.2.2.2.2.2.2.2), x.2.1, ())))
noncomputable def k31l3 : LCtr := ⟨[0, 2, 34, 35, 36], (.cons (.ptr q31) (.cons (.ptr q2) (.cons (.val (.lst t_easementref08_Pair)) (.cons (.val (.int .i64)) (.cons (.val (.int .i64)) .nil))))), [some 0, some 1], [0], [⟨(.exit 1), [0, 2], (.cons (.ptr q31) (.cons (.ptr q2) .nil)), [some 0, some 1]⟩], fun _ => [], lim valid_checker_head_p0_l12_step⟩
theorem k31s : LsOK Try.prog Try.f110.ntmps (codeOf Try.f110) [(12, k31l3), (1179773, k31l2), (8590327837, k31l1)] := loop_E 12 k31l3 k31 (join_E 1179773 k31l2 k31 (join_E 8590327837 k31l1 k31 trivial (by kernel_rfl) (fun x => by kernel_rfl)) (by kernel_rfl) (fun x => by kernel_rfl)) (by kernel_rfl) rfl (fun g x => by kernel_rfl)
noncomputable def valid_checker_head_p0 (x : T25) : Option T19 :=
  Option.bind (valid_checker_head_p0_j29_v ((x.1.1, x.1.2.1, x.1.2.2.1, x.1.2.2.2.1, x.1.2.2.2.2.1, x.1.2.2.2.2.2.1, x.1.2.2.2.2.2.2.1, (), x.1.2.2.2.2.2.2.2.2), (x.1.1, x.1.2.1, x.1.2.2.1, x.1.2.2.2.1, x.1.2.2.2.2.1, x.1.2.2.2.2.2.1, x.1.2.2.2.2.2.2.1, ()), cond (decide (x.1.1 < (1 : Int))) true (decide (x.1.2.1 < x.1.1)), ())) fun y6 => out1 y6
    (fun z7 =>
      Option.bind (valid_many ((z7.2.1.2.2.1.length : Int), ())) fun y8 =>
      Option.bind (valid_checker_wrong_p0 ((z7.1.1, z7.1.2.1, z7.1.2.2.1, z7.1.2.2.2.1, z7.1.2.2.2.2.1, z7.1.2.2.2.2.2.1, z7.1.2.2.2.2.2.2.1, (), z7.1.2.2.2.2.2.2.2.2), y8.1, (1 : Int), (0 : Int), (0 : Int), ())) fun y9 => out1 y9
        (fun z10 =>
          Option.bind (lim valid_checker_head_p0_l12_step ((z10.1.1, z10.1.2.1, z10.1.2.2.1, z10.1.2.2.2.1, z10.1.2.2.2.2.1, z10.1.2.2.2.2.2.1, z10.1.2.2.2.2.2.2.1, (), z10.1.2.2.2.2.2.2.2.2), z7.2.1, z7.2.1.2.2.1, (z7.2.1.2.2.1.length : Int), (0 : Int), ())) fun y15 => out1 y15
            (fun z16 =>
              some (.inl ((z16.1.1, z16.1.2.1, z16.1.2.2.1, z16.1.2.2.2.1, z16.1.2.2.2.2.1, z16.1.2.2.2.2.2.1, z16.1.2.2.2.2.2.2.1, (), z16.1.2.2.2.2.2.2.2.2), ())))))
noncomputable def k31L : LCtr := ⟨[0], (.cons (.ptr q31) .nil), [], [], [⟨.normal, [0], (.cons (.ptr q31) .nil), [some 0]⟩], fun _ => [], valid_checker_head_p0⟩
noncomputable def valid_checker_head_p0_c : PI := mkPI Try.f110 k31L
theorem valid_checker_head_p0_ok : PIOK Try.prog 110 valid_checker_head_p0_c := proc_E k31 Try.func110 k31s (by kernel_rfl) (fun x => by kernel_rfl)
/-! ### easement/valid.some: function 140 -/
noncomputable def k32 : FE Try.prog := ⟨[(139, valid_many_c)], [], [], [], ⟨valid_many_ok, trivial⟩, trivial, trivial⟩
noncomputable def valid_some (x : (Int × Unit)) : Option (Int × Unit) :=
  cond (x.1 == (0 : Int))
    (some ((14 : Int), ()))
    (Option.bind (valid_many x) fun y1 =>
    some y1)
noncomputable def valid_some_c : Ctr := ⟨(.cons (.int .i64) .nil), (.cons (.int .i64) .nil), valid_some, none⟩
theorem valid_some_ok : CtrOK Try.prog 140 valid_some_c := fun_E (ls := []) k32 Try.func140 trivial (by kernel_rfl) (fun x => by kernel_rfl)
/-! ### easement/row.Check: function 141 -/
noncomputable def row_Check_l8_step (g : (Int × (List V_api_Slot) × Int × Int × Unit) → Option ((Int × Unit) ⊕ (Unit ⊕ Empty))) (x : (Int × (List V_api_Slot) × Int × Int × Unit)) : Option ((Int × Unit) ⊕ (Unit ⊕ Empty)) :=
  cond (decide (x.2.2.2.1 < x.2.2.1))
    (ck (inB x.2.2.2.1 (x.2.1.length)) <|
    let v1 := (rdL t_api_Slot x.2.1 x.2.2.2.1).1
    cond (cond (decide (v1 < (0 : Int))) true (decide (v1 ≥ x.1)))
      (some (.inl ((7 : Int), ())))
      (g (x.1, x.2.1, x.2.2.1, IntKind.i64.wrap (x.2.2.2.1 + (1 : Int)), ())))
    (some (.inr (.inl ())))
noncomputable def k33l1 : LCtr := ⟨[1, 12, 13, 14], (.cons (.val (.int .i64)) (.cons (.val (.lst t_api_Slot)) (.cons (.val (.int .i64)) (.cons (.val (.int .i64)) .nil)))), [], [], [⟨.ret, [4], (.cons (.val (.int .i64)) .nil), []⟩, ⟨(.exit 0), [], .nil, []⟩], fun _ => [], lim row_Check_l8_step⟩
theorem k33s : LsOK Try.prog Try.f141.ntmps (codeOf Try.f141) [(8, k33l1)] := loop_E 8 k33l1 k0 trivial (by kernel_rfl) rfl (fun g x => by kernel_rfl)
noncomputable def row_Check (x : (V_api_Type × Int × Unit)) : Option (Int × Unit) :=
  cond (decide ((x.1.1.length : Int) > (16 : Int)))
    (some ((6 : Int), ()))
    (Option.bind (lim row_Check_l8_step (x.2.1, x.1.1, (x.1.1.length : Int), (0 : Int), ())) fun y1 => out2 y1
      (fun z2 =>
        some z2)
      (fun z3 =>
        some ((0 : Int), ())))
noncomputable def row_Check_c : Ctr := ⟨(.cons t_api_Type (.cons (.int .i64) .nil)), (.cons (.int .i64) .nil), row_Check, none⟩
theorem row_Check_ok : CtrOK Try.prog 141 row_Check_c := fun_E k0 Try.func141 k33s (by kernel_rfl) (fun x => by kernel_rfl)
/-! ### easement/row.Shape$1: function 159 -/
noncomputable def row_Shape_1 (x : (V_api_Slot × V_api_Slot × Unit)) : Option (Bool × Unit) :=
  some (x.1.2.1 == x.2.1.2.1, ())
noncomputable def row_Shape_1_c : Ctr := ⟨(.cons t_api_Slot (.cons t_api_Slot .nil)), (.cons .bool .nil), row_Shape_1, none⟩
theorem row_Shape_1_ok : CtrOK Try.prog 159 row_Shape_1_c := fun_E (ls := []) k0 Try.func159 trivial (by kernel_rfl) (fun x => by kernel_rfl)
/-! ### slices.EqualFunc[[]easement/api.Slot,[]easement/api.Slot,easement/api.Slot,easement/api.Slot]: function 158, at objects -/
noncomputable def k35 : FE Try.prog := ⟨[(159, row_Shape_1_c)], [], [], [], ⟨row_Shape_1_ok, trivial⟩, trivial, trivial⟩
noncomputable def slices_EqualFunc_82_p0_l8_step (g : T26 → Option ((Bool × Unit) ⊕ (Unit ⊕ Empty))) (x : T26) : Option ((Bool × Unit) ⊕ (Unit ⊕ Empty)) :=
  cond (decide (x.2.2.2.2.1 < x.2.2.2.1))
    (ck (inB x.2.2.2.2.1 (x.2.2.1.length)) <|
    ck (inB x.2.2.2.2.1 (x.1.length)) <|
    Option.bind (row_Shape_1 (rdL t_api_Slot x.2.2.1 x.2.2.2.2.1, rdL t_api_Slot x.1 x.2.2.2.2.1, ())) fun y1 =>
    cond (!y1.1)
      (some (.inl (false, ())))
      (g (x.1, (), x.2.2.1, x.2.2.2.1, IntKind.i64.wrap (x.2.2.2.2.1 + (1 : Int)), ())))
    (some (.inr (.inl ())))
noncomputable def k35l1 : LCtr := ⟨[1, 2, 15, 16, 17], (.cons (.val (.lst t_api_Slot)) (.cons (.clo 159 .nil) (.cons (.val (.lst t_api_Slot)) (.cons (.val (.int .i64)) (.cons (.val (.int .i64)) .nil))))), [], [0, 1, 2], [⟨.ret, [6], (.cons (.val .bool) .nil), []⟩, ⟨(.exit 0), [], .nil, []⟩], fun _ => [], lim slices_EqualFunc_82_p0_l8_step⟩
theorem k35s : LsOK Try.prog Try.f158.ntmps (codeOf Try.f158) [(8, k35l1)] := loop_E 8 k35l1 k35 trivial (by kernel_rfl) rfl (fun g x => by kernel_rfl)
noncomputable def slices_EqualFunc_82_p0 (x : ((List V_api_Slot) × (List V_api_Slot) × Unit × Unit)) : Option ((Bool × Unit) ⊕ Empty) :=
  cond ((x.1.length : Int) != (x.2.1.length : Int))
    (some (.inl (false, ())))
    (Option.bind (lim slices_EqualFunc_82_p0_l8_step (x.2.1, (), x.1, (x.1.length : Int), (0 : Int), ())) fun y2 => out2 y2
      (fun z3 =>
        some (.inl z3))
      (fun z4 =>
        some (.inl (true, ()))))
noncomputable def k35L : LCtr := ⟨[0, 1, 2], (.cons (.val (.lst t_api_Slot)) (.cons (.val (.lst t_api_Slot)) (.cons (.clo 159 .nil) .nil))), [], [], [⟨.ret, [6], (.cons (.val .bool) .nil), []⟩], fun _ => [], slices_EqualFunc_82_p0⟩
noncomputable def slices_EqualFunc_82_p0_c : PI := mkPI Try.f158 k35L
theorem slices_EqualFunc_82_p0_ok : PIOK Try.prog 158 slices_EqualFunc_82_p0_c := proc_E k35 Try.func158 k35s (by kernel_rfl) (fun x => by kernel_rfl)
/-! ### easement/row.Shape: function 142 -/
noncomputable def k36 : FE Try.prog := ⟨[], [(158, [slices_EqualFunc_82_p0_c])], [], [], trivial, ⟨⟨slices_EqualFunc_82_p0_ok, trivial⟩, trivial⟩, trivial⟩
noncomputable def row_Shape (x : (V_api_Type × V_api_Type × Unit)) : Option (Bool × Unit) :=
  Option.bind (slices_EqualFunc_82_p0 (x.1.1, x.2.1.1, (), ())) fun y1 => out1 y1
    (fun z2 =>
      some z2)
noncomputable def row_Shape_c : Ctr := ⟨(.cons t_api_Type (.cons t_api_Type .nil)), (.cons .bool .nil), row_Shape, none⟩
theorem row_Shape_ok : CtrOK Try.prog 142 row_Shape_c := fun_E (ls := []) k36 Try.func142 trivial (by kernel_rfl) (fun x => by kernel_rfl)
/-! ### easement/sig.Check: function 143 -/
noncomputable def k37 : FE Try.prog := ⟨[(141, row_Check_c)], [], [], [], ⟨row_Check_ok, trivial⟩, trivial, trivial⟩
noncomputable def sig_Check_l12_step (g : T27 → Option ((Int × V_api_Sig × Unit) ⊕ ((V_api_Sig × Unit) ⊕ Empty))) (x : T27) : Option ((Int × V_api_Sig × Unit) ⊕ ((V_api_Sig × Unit) ⊕ Empty)) :=
  cond (decide (x.2.2.2.1 < x.2.2.1))
    (ck (inB x.2.2.2.1 (x.2.1.length)) <|
    let v1 := rdL t_easementref08_Pair x.2.1 x.2.2.2.1
    cond (cond (cond (cond (decide (v1.1 < (0 : Int))) true (decide (v1.1 ≥ x.1.1))) true (decide (v1.2.1 < (0 : Int)))) true (decide (v1.2.1 ≥ x.1.1)))
      (some (.inl ((7 : Int), x.1, ())))
      (g (x.1, x.2.1, x.2.2.1, IntKind.i64.wrap (x.2.2.2.1 + (1 : Int)), ())))
    (some (.inr (.inl (x.1, ()))))
noncomputable def k37l1 : LCtr := ⟨[1, 29, 30, 31], (.cons (.ptr q1) (.cons (.val (.lst t_easementref08_Pair)) (.cons (.val (.int .i64)) (.cons (.val (.int .i64)) .nil)))), [some 0], [1], [⟨.ret, [2, 1], (.cons (.val (.int .i64)) (.cons (.ptr q1) .nil)), [some 0]⟩, ⟨(.exit 1), [1], (.cons (.ptr q1) .nil), [some 0]⟩], fun _ => [], lim sig_Check_l12_step⟩
noncomputable def sig_Check_l24_step (g : (V_api_Sig × (List V_api_Type) × Int × Int × Unit) → Option T28) (x : (V_api_Sig × (List V_api_Type) × Int × Int × Unit)) : Option T28 :=
  cond (decide (x.2.2.2.1 < x.2.2.1))
    (ck (inB x.2.2.2.1 (x.2.1.length)) <|
    Option.bind (row_Check (x.2.1.getD x.2.2.2.1.toNat (Ty.dflt t_api_Type), x.1.1, ())) fun y4 =>
    cond (y4.1 != (0 : Int))
      (some (.inl (y4.1, x.1, x.2.1, ())))
      (g (x.1, x.2.1, x.2.2.1, IntKind.i64.wrap (x.2.2.2.1 + (1 : Int)), ())))
    (some (.inr (.inl (x.1, x.2.1, ()))))
noncomputable def k37l2 : LCtr := ⟨[1, 64, 65, 66], (.cons (.ptr q1) (.cons (.own t_api_Type) (.cons (.val (.int .i64)) (.cons (.val (.int .i64)) .nil)))), [some 0, some 1], [], [⟨.ret, [2, 1, 64], (.cons (.val (.int .i64)) (.cons (.ptr q1) (.cons (.own t_api_Type) .nil))), [some 0, some 1]⟩, ⟨(.exit 3), [1, 64], (.cons (.ptr q1) (.cons (.own t_api_Type) .nil)), [some 0, some 1]⟩], fun _ => [], lim sig_Check_l24_step⟩
theorem k37s : LsOK Try.prog Try.f143.ntmps (codeOf Try.f143) [(24, k37l2), (12, k37l1)] := loop_E 24 k37l2 k37 (loop_E 12 k37l1 k37 trivial (by kernel_rfl) rfl (fun g x => by kernel_rfl)) (by kernel_rfl) rfl (fun g x => by kernel_rfl)
noncomputable def sig_Check (x : (V_api_Sig × Unit)) : Option (Int × Unit) :=
  cond (decide (x.1.1 < (0 : Int)))
    (some ((7 : Int), ()))
    (cond (cond (cond (decide (x.1.1 > (16 : Int))) true (decide ((x.1.2.1.length : Int) > (16 : Int)))) true (decide ((x.1.2.2.1.length : Int) > (16 : Int))))
      (some ((6 : Int), ()))
      (Option.bind (lim sig_Check_l12_step (x.1, x.1.2.1, (x.1.2.1.length : Int), (0 : Int), ())) fun y1 => out2 y1
        (fun z2 =>
          some (z2.1, ()))
        (fun z3 =>
          let v1 := ([] : List V_api_Type) ++ z3.1.2.2.1
          ck (roomB v1.length 26) <|
          ck (roomB (v1 ++ [z3.1.2.2.2]).length 26) <|
          Option.bind (lim sig_Check_l24_step (z3.1, v1 ++ [z3.1.2.2.2], ((v1 ++ [z3.1.2.2.2]).length : Int), (0 : Int), ())) fun y5 => out2 y5
            (fun z6 =>
              some (z6.1, ()))
            (fun z7 =>
              some ((0 : Int), ())))))
noncomputable def sig_Check_c : Ctr := ⟨(.cons t_api_Sig .nil), (.cons (.int .i64) .nil), sig_Check, none⟩
theorem sig_Check_ok : CtrOK Try.prog 143 sig_Check_c := fun_E k37 Try.func143 k37s (by kernel_rfl) (fun x => by kernel_rfl)
/-! ### (*easement/valid.checker).types: function 111, at objects -/
noncomputable def k38 : FE Try.prog := ⟨[(140, valid_some_c), (141, row_Check_c), (142, row_Shape_c), (139, valid_many_c), (143, sig_Check_c)], [(138, [valid_checker_wrong_p0_c])], [], [], ⟨valid_some_ok, row_Check_ok, row_Shape_ok, valid_many_ok, sig_Check_ok, trivial⟩, ⟨⟨valid_checker_wrong_p0_ok, trivial⟩, trivial⟩, trivial⟩
noncomputable def valid_checker_types_p0_l6_step (g : T29 → Option T22) (x : T29) : Option T22 :=
  cond (decide (x.2.2.2.2.1 < x.2.2.2.1))
    (ck (inB x.2.2.2.2.1 (x.2.2.1.length)) <|
    Option.bind (row_Check (rdL t_api_Type x.2.2.1 x.2.2.2.2.1, x.2.1.2.1, ())) fun y4 =>
    Option.bind (valid_checker_wrong_p0 ((x.1.1, x.1.2.1, x.1.2.2.1, x.1.2.2.2.1, x.1.2.2.2.2.1, x.1.2.2.2.2.2.1, x.1.2.2.2.2.2.2.1, (), x.1.2.2.2.2.2.2.2.2), y4.1, (2 : Int), x.2.2.2.2.1, (0 : Int), ())) fun y5 => out1 y5
      (fun z6 =>
        g ((z6.1.1, z6.1.2.1, z6.1.2.2.1, z6.1.2.2.2.1, z6.1.2.2.2.2.1, z6.1.2.2.2.2.2.1, z6.1.2.2.2.2.2.2.1, (), z6.1.2.2.2.2.2.2.2.2), x.2.1, x.2.2.1, x.2.2.2.1, IntKind.i64.wrap (x.2.2.2.2.1 + (1 : Int)), ())))
    (some (.inl ((x.1.1, x.1.2.1, x.1.2.2.1, x.1.2.2.2.1, x.1.2.2.2.2.1, x.1.2.2.2.2.2.1, x.1.2.2.2.2.2.2.1, (), x.1.2.2.2.2.2.2.2.2), x.2.1, ())))
noncomputable def k38l1 : LCtr := ⟨[0, 2, 18, 19, 20], (.cons (.ptr q31) (.cons (.ptr q2) (.cons (.val (.lst t_api_Type)) (.cons (.val (.int .i64)) (.cons (.val (.int .i64)) .nil))))), [some 0, some 1], [0, 2], [⟨(.exit 0), [0, 2], (.cons (.ptr q31) (.cons (.ptr q2) .nil)), [some 0, some 1]⟩], fun _ => [], lim valid_checker_types_p0_l6_step⟩
noncomputable def valid_checker_types_p0_j107_v (x : ((Int × Int × (List V_easementref08_Pair) × (List V_api_Type) × (List V_api_Slot) × (List V_api_Sig) × (List V_api_Block) × Unit × Int × Int × Int × Int × Unit) × Bool × Unit)) : Option T19 :=
  cond (x.2.1)
    (Option.bind (valid_checker_wrong_p0 ((x.1.1, x.1.2.1, x.1.2.2.1, x.1.2.2.2.1, x.1.2.2.2.2.1, x.1.2.2.2.2.2.1, x.1.2.2.2.2.2.2.1, (), x.1.2.2.2.2.2.2.2.2), (8 : Int), (3 : Int), (0 : Int), (0 : Int), ())) fun y13 => out1 y13
      (fun z14 =>
        some (.inl ((z14.1.1, z14.1.2.1, z14.1.2.2.1, z14.1.2.2.2.1, z14.1.2.2.2.2.1, z14.1.2.2.2.2.2.1, z14.1.2.2.2.2.2.2.1, (), z14.1.2.2.2.2.2.2.2.2), ()))))
    (some (.inl ((x.1.1, x.1.2.1, x.1.2.2.1, x.1.2.2.2.1, x.1.2.2.2.2.1, x.1.2.2.2.2.2.1, x.1.2.2.2.2.2.2.1, (), x.1.2.2.2.2.2.2.2.2), ())))
noncomputable def k38l2 : LCtr := ⟨[0, 53], (.cons (.ptr q31) (.cons (.val .bool) .nil)), [], [0, 2], [⟨.normal, [0], (.cons (.ptr q31) .nil), [some 0]⟩], fun _ => [], valid_checker_types_p0_j107_v⟩
noncomputable def valid_checker_types_p0_l24_step (g : T31 → Option T19) (x : T31) : Option T19 :=
  cond (decide (x.2.2.2.1 < x.2.2.1))
    (ck (inB x.2.2.2.1 (x.2.1.length)) <|
    Option.bind (sig_Check (rdL t_api_Sig x.2.1 x.2.2.2.1, ())) fun y20 =>
    Option.bind (valid_checker_wrong_p0 ((x.1.1, x.1.2.1, x.1.2.2.1, x.1.2.2.2.1, x.1.2.2.2.2.1, x.1.2.2.2.2.2.1, x.1.2.2.2.2.2.2.1, (), x.1.2.2.2.2.2.2.2.2), y20.1, (4 : Int), x.2.2.2.1, (0 : Int), ())) fun y21 => out1 y21
      (fun z22 =>
        g ((z22.1.1, z22.1.2.1, z22.1.2.2.1, z22.1.2.2.2.1, z22.1.2.2.2.2.1, z22.1.2.2.2.2.2.1, z22.1.2.2.2.2.2.2.1, (), z22.1.2.2.2.2.2.2.2.2), x.2.1, x.2.2.1, IntKind.i64.wrap (x.2.2.2.1 + (1 : Int)), ())))
    (some (.inl ((x.1.1, x.1.2.1, x.1.2.2.1, x.1.2.2.2.1, x.1.2.2.2.2.1, x.1.2.2.2.2.2.1, x.1.2.2.2.2.2.2.1, (), x.1.2.2.2.2.2.2.2.2), ())))
noncomputable def k38l3 : LCtr := ⟨[0, 63, 64, 65], (.cons (.ptr q31) (.cons (.val (.lst t_api_Sig)) (.cons (.val (.int .i64)) (.cons (.val (.int .i64)) .nil)))), [some 0], [0], [⟨(.exit 2), [0], (.cons (.ptr q31) .nil), [some 0]⟩], fun _ => [], lim valid_checker_types_p0_l24_step⟩
theorem k38s : LsOK Try.prog Try.f111.ntmps (codeOf Try.f111) [(24, k38l3), (1179755, k38l2), (6, k38l1)] := loop_E 24 k38l3 k38 (join_E 1179755 k38l2 k38 (loop_E 6 k38l1 k38 trivial (by kernel_rfl) rfl (fun g x => by kernel_rfl)) (by kernel_rfl) (fun x => by kernel_rfl)) (by kernel_rfl) rfl (fun g x => by kernel_rfl)
noncomputable def valid_checker_types_p0 (x : T25) : Option T19 :=
  Option.bind (valid_some ((x.1.2.2.2.1.length : Int), ())) fun y1 =>
  Option.bind (valid_checker_wrong_p0 ((x.1.1, x.1.2.1, x.1.2.2.1, x.1.2.2.2.1, x.1.2.2.2.2.1, x.1.2.2.2.2.2.1, x.1.2.2.2.2.2.2.1, (), x.1.2.2.2.2.2.2.2.2), y1.1, (2 : Int), (0 : Int), (0 : Int), ())) fun y2 => out1 y2
    (fun z3 =>
      Option.bind (lim valid_checker_types_p0_l6_step ((z3.1.1, z3.1.2.1, z3.1.2.2.1, z3.1.2.2.2.1, z3.1.2.2.2.2.1, z3.1.2.2.2.2.2.1, z3.1.2.2.2.2.2.2.1, (), z3.1.2.2.2.2.2.2.2.2), (x.1.1, x.1.2.1, x.1.2.2.1, x.1.2.2.2.1, x.1.2.2.2.2.1, x.1.2.2.2.2.2.1, x.1.2.2.2.2.2.2.1, ()), x.1.2.2.2.1, (x.1.2.2.2.1.length : Int), (0 : Int), ())) fun y7 => out1 y7
        (fun z8 =>
          Option.bind (row_Check ((z8.2.1.2.2.2.2.1, ()), z8.2.1.1, ())) fun y9 =>
          Option.bind (valid_checker_wrong_p0 ((z8.1.1, z8.1.2.1, z8.1.2.2.1, z8.1.2.2.2.1, z8.1.2.2.2.2.1, z8.1.2.2.2.2.2.1, z8.1.2.2.2.2.2.2.1, (), z8.1.2.2.2.2.2.2.2.2), y9.1, (3 : Int), (0 : Int), (0 : Int), ())) fun y10 => out1 y10
            (fun z11 =>
              let v1 := decide ((z8.2.1.2.2.2.1.length : Int) > (0 : Int))
              ck ((inB (0 : Int) (z8.2.1.2.2.2.1.length)) || !v1) <|
              cond (v1)
                (Option.bind (row_Shape (rdL t_api_Type z8.2.1.2.2.2.1 (0 : Int), (z8.2.1.2.2.2.2.1, ()), ())) fun y12 =>
                Option.bind (valid_checker_types_p0_j107_v ((z11.1.1, z11.1.2.1, z11.1.2.2.1, z11.1.2.2.2.1, z11.1.2.2.2.2.1, z11.1.2.2.2.2.2.1, z11.1.2.2.2.2.2.2.1, (), z11.1.2.2.2.2.2.2.2.2), !y12.1, ())) fun y15 => out1 y15
                  (fun z16 =>
                    Option.bind (valid_many ((z8.2.1.2.2.2.2.2.1.length : Int), ())) fun y17 =>
                    Option.bind (valid_checker_wrong_p0 ((z16.1.1, z16.1.2.1, z16.1.2.2.1, z16.1.2.2.2.1, z16.1.2.2.2.2.1, z16.1.2.2.2.2.2.1, z16.1.2.2.2.2.2.2.1, (), z16.1.2.2.2.2.2.2.2.2), y17.1, (4 : Int), (0 : Int), (0 : Int), ())) fun y18 => out1 y18
                      (fun z19 =>
                        Option.bind (lim valid_checker_types_p0_l24_step ((z19.1.1, z19.1.2.1, z19.1.2.2.1, z19.1.2.2.2.1, z19.1.2.2.2.2.1, z19.1.2.2.2.2.2.1, z19.1.2.2.2.2.2.2.1, (), z19.1.2.2.2.2.2.2.2.2), z8.2.1.2.2.2.2.2.1, (z8.2.1.2.2.2.2.2.1.length : Int), (0 : Int), ())) fun y23 => out1 y23
                          (fun z24 =>
                            some (.inl ((z24.1.1, z24.1.2.1, z24.1.2.2.1, z24.1.2.2.2.1, z24.1.2.2.2.2.1, z24.1.2.2.2.2.2.1, z24.1.2.2.2.2.2.2.1, (), z24.1.2.2.2.2.2.2.2.2), ()))))))
                (Option.bind (valid_checker_types_p0_j107_v ((z11.1.1, z11.1.2.1, z11.1.2.2.1, z11.1.2.2.2.1, z11.1.2.2.2.2.1, z11.1.2.2.2.2.2.1, z11.1.2.2.2.2.2.2.1, (), z11.1.2.2.2.2.2.2.2.2), false, ())) fun y25 => out1 y25
                  (fun z26 =>
                    Option.bind (valid_many ((z8.2.1.2.2.2.2.2.1.length : Int), ())) fun y27 =>
                    Option.bind (valid_checker_wrong_p0 ((z26.1.1, z26.1.2.1, z26.1.2.2.1, z26.1.2.2.2.1, z26.1.2.2.2.2.1, z26.1.2.2.2.2.2.1, z26.1.2.2.2.2.2.2.1, (), z26.1.2.2.2.2.2.2.2.2), y27.1, (4 : Int), (0 : Int), (0 : Int), ())) fun y28 => out1 y28
                      (fun z29 =>
                        Option.bind (lim valid_checker_types_p0_l24_step ((z29.1.1, z29.1.2.1, z29.1.2.2.1, z29.1.2.2.2.1, z29.1.2.2.2.2.1, z29.1.2.2.2.2.2.1, z29.1.2.2.2.2.2.2.1, (), z29.1.2.2.2.2.2.2.2.2), z8.2.1.2.2.2.2.2.1, (z8.2.1.2.2.2.2.2.1.length : Int), (0 : Int), ())) fun y30 => out1 y30
                          (fun z31 =>
                            some (.inl ((z31.1.1, z31.1.2.1, z31.1.2.2.1, z31.1.2.2.2.1, z31.1.2.2.2.2.1, z31.1.2.2.2.2.2.1, z31.1.2.2.2.2.2.2.1, (), z31.1.2.2.2.2.2.2.2.2), ())))))))))
noncomputable def k38L : LCtr := ⟨[0], (.cons (.ptr q31) .nil), [], [], [⟨.normal, [0], (.cons (.ptr q31) .nil), [some 0]⟩], fun _ => [], valid_checker_types_p0⟩
noncomputable def valid_checker_types_p0_c : PI := mkPI Try.f111 k38L
theorem valid_checker_types_p0_ok : PIOK Try.prog 111 valid_checker_types_p0_c := proc_E k38 Try.func111 k38s (by kernel_rfl) (fun x => by kernel_rfl)
/-! ### easement/stmt.of: function 148 -/
noncomputable def stmt_of_j23_v (x : V_api_Slot) : Option ((Bool × Unit) ⊕ Empty) :=
  cond (x.2.1)
    (some (.inl x.2))
    (some (.inl (x.1 == (3 : Int), ())))
noncomputable def k39l1 : LCtr := ⟨[4, 11], (.cons (.val (.int .i64)) (.cons (.val .bool) .nil)), [], [2, 4], [⟨.normal, [11], (.cons (.val .bool) .nil), []⟩], fun _ => [], stmt_of_j23_v⟩
theorem k39s : LsOK Try.prog Try.f148.ntmps (codeOf Try.f148) [(60129542167, k39l1)] := join_E 60129542167 k39l1 k0 trivial (by kernel_rfl) (fun x => by kernel_rfl)
noncomputable def stmt_of (x : (Int × Unit)) : Option (V_stmt_fields × Bool × Unit) :=
  cond (x.1 == (0 : Int))
    (some ((false, false, false, ()), true, ()))
    (cond (x.1 == (1 : Int))
      (some ((true, true, false, ()), true, ()))
      (Option.bind (stmt_of_j23_v (x.1, x.1 == (2 : Int), ())) fun y1 => out1 y1
        (fun z2 =>
          cond (z2.1)
            (some ((true, true, true, ()), true, ()))
            (cond (x.1 == (4 : Int))
              (some ((false, true, false, ()), true, ()))
              (cond (x.1 == (5 : Int))
                (some ((true, false, false, ()), true, ()))
                (some ((false, false, false, ()), false, ())))))))
noncomputable def stmt_of_c : Ctr := ⟨(.cons (.int .i64) .nil), (.cons t_stmt_fields (.cons .bool .nil)), stmt_of, none⟩
theorem stmt_of_ok : CtrOK Try.prog 148 stmt_of_c := fun_E k0 Try.func148 k39s (by kernel_rfl) (fun x => by kernel_rfl)
/-! ### easement/stmt.form: function 118 -/
noncomputable def k40 : FE Try.prog := ⟨[(148, stmt_of_c)], [], [], [], ⟨stmt_of_ok, trivial⟩, trivial, trivial⟩
noncomputable def stmt_form_j35_v (x : (V_api_Prov × V_api_Prov × Bool × Unit)) : Option ((V_api_Prov × V_api_Prov × Unit) ⊕ Empty) :=
  cond (x.2.2.1)
    (some (.inl (x.1, (x.2.1.1, x.1.2.1, x.2.1.2.2), ())))
    (some (.inl (x.1, x.2.1, ())))
noncomputable def k40l1 : LCtr := ⟨[1, 6, 17], (.cons (.ptr q44) (.cons (.ptr q44) (.cons (.val .bool) .nil))), [], [1, 2, 4, 5, 6], [⟨.normal, [1, 6], (.cons (.ptr q44) (.cons (.ptr q44) .nil)), [some 0, some 1]⟩], fun _ => [], stmt_form_j35_v⟩
noncomputable def stmt_form_j45_v (x : (V_api_Prov × V_api_Prov × Bool × Unit)) : Option ((V_api_Prov × V_api_Prov × Unit) ⊕ Empty) :=
  cond (x.2.2.1)
    (some (.inl (x.1, (x.2.1.1, x.2.1.2.1, x.1.2.2.1, x.2.1.2.2.2), ())))
    (some (.inl (x.1, x.2.1, ())))
noncomputable def k40l2 : LCtr := ⟨[1, 6, 22], (.cons (.ptr q44) (.cons (.ptr q44) (.cons (.val .bool) .nil))), [], [1, 2, 4, 5, 6], [⟨.normal, [1, 6], (.cons (.ptr q44) (.cons (.ptr q44) .nil)), [some 0, some 1]⟩], fun _ => [], stmt_form_j45_v⟩
noncomputable def stmt_form_j55_v (x : (V_api_Prov × V_api_Prov × Bool × Unit)) : Option ((V_api_Prov × V_api_Prov × Unit) ⊕ Empty) :=
  cond (x.2.2.1)
    (some (.inl (x.1, (x.2.1.1, x.2.1.2.1, x.2.1.2.2.1, x.1.2.2.2), ())))
    (some (.inl (x.1, x.2.1, ())))
noncomputable def k40l3 : LCtr := ⟨[1, 6, 27], (.cons (.ptr q44) (.cons (.ptr q44) (.cons (.val .bool) .nil))), [], [1, 2, 4, 5, 6], [⟨.normal, [1, 6], (.cons (.ptr q44) (.cons (.ptr q44) .nil)), [some 0, some 1]⟩], fun _ => [], stmt_form_j55_v⟩
theorem k40s : LsOK Try.prog Try.f118.ntmps (codeOf Try.f118) [(1048631, k40l3), (786477, k40l2), (524323, k40l1)] := join_E 1048631 k40l3 k40 (join_E 786477 k40l2 k40 (join_E 524323 k40l1 k40 trivial (by kernel_rfl) (fun x => by kernel_rfl)) (by kernel_rfl) (fun x => by kernel_rfl)) (by kernel_rfl) (fun x => by kernel_rfl)
noncomputable def stmt_form (x : (V_api_Prov × Unit)) : Option (V_stmt_fields × Bool × Unit) :=
  Option.bind (stmt_of (x.1.1, ())) fun y1 =>
  Option.bind (stmt_form_j35_v (x.1, (x.1.1, (0 : Int), (0 : Int), (0 : Int), false, ()), y1.1.1, ())) fun y2 => out1 y2
    (fun z3 =>
      Option.bind (stmt_form_j45_v (z3.1, z3.2.1, y1.1.2.1, ())) fun y4 => out1 y4
        (fun z5 =>
          Option.bind (stmt_form_j55_v (z5.1, z5.2.1, y1.1.2.2)) fun y6 => out1 y6
            (fun z7 =>
              some (y1.1, cond y1.2.1 ((z7.2.1.1 == z7.1.1) && ((z7.2.1.2.1 == z7.1.2.1) && ((z7.2.1.2.2.1 == z7.1.2.2.1) && ((z7.2.1.2.2.2.1 == z7.1.2.2.2.1) && ((z7.2.1.2.2.2.2.1 == z7.1.2.2.2.2.1) && true))))) false, ()))))
noncomputable def stmt_form_c : Ctr := ⟨(.cons t_api_Prov .nil), (.cons t_stmt_fields (.cons .bool .nil)), stmt_form, none⟩
theorem stmt_form_ok : CtrOK Try.prog 118 stmt_form_c := fun_E k40 Try.func118 k40s (by kernel_rfl) (fun x => by kernel_rfl)
/-! ### (*easement/relate.maker).put: function 150, at objects -/
noncomputable def relate_maker_put_p0 (x : (V_relate_maker × Int × Int × Int × Int × Unit)) : Option ((V_relate_maker × Unit) ⊕ Empty) :=
  let v1 := x.1.1 ++ [(x.2.1, x.2.2.1, x.2.2.2.1, x.2.2.2.2.1, false, ())]
  ck (roomB v1.length 46) <|
  some (.inl ((v1, ()), ()))
noncomputable def k41L : LCtr := ⟨[0, 1, 2, 3, 4], (.cons (.ptr (.cons (.own t_api_Prov) .nil)) (.cons (.val (.int .i64)) (.cons (.val (.int .i64)) (.cons (.val (.int .i64)) (.cons (.val (.int .i64)) .nil))))), [], [], [⟨.normal, [0], (.cons (.ptr (.cons (.own t_api_Prov) .nil)) .nil), [some 0, none]⟩], fun _ => [], relate_maker_put_p0⟩
noncomputable def relate_maker_put_p0_c : PI := mkPI Try.f150 k41L
theorem relate_maker_put_p0_ok : PIOK Try.prog 150 relate_maker_put_p0_c := proc_E (ls := []) k0 Try.func150 trivial (by kernel_rfl) (fun x => by kernel_rfl)
/-! ### (*easement/relate.maker).slots: function 146, at objects -/
noncomputable def k42 : FE Try.prog := ⟨[], [(150, [relate_maker_put_p0_c])], [], [], trivial, ⟨⟨relate_maker_put_p0_ok, trivial⟩, trivial⟩, trivial⟩
noncomputable def relate_maker_slots_p0_j73_v (x : (V_relate_maker × V_api_Slot × (List V_api_Slot) × Int × Int × Int × Bool × Unit)) : Option ((V_relate_maker × V_api_Slot × Unit) ⊕ Empty) :=
  cond (x.2.2.2.2.2.2.1)
    (ck (inB x.2.2.2.2.2.1 (x.2.2.1.length)) <|
    let v1 := x.1.1 ++ [((rdL t_api_Slot x.2.2.1 x.2.2.2.2.2.1).1, x.2.1.1, x.2.2.2.1, IntKind.i64.wrap (x.2.2.2.2.1 + x.2.2.2.2.2.1), true, ())]
    ck (roomB v1.length 46) <|
    some (.inl ((v1, ()), x.2.1, ())))
    (some (.inl (x.1, x.2.1, ())))
noncomputable def k42l1 : LCtr := ⟨[0, 11, 2, 3, 4, 10, 36], (.cons (.ptr (.cons (.own t_api_Prov) .nil)) (.cons (.ptr (.cons (.val (.int .i64)) (.cons (.val .bool) .nil))) (.cons (.val (.lst t_api_Slot)) (.cons (.val (.int .i64)) (.cons (.val (.int .i64)) (.cons (.val (.int .i64)) (.cons (.val .bool) .nil))))))), [], [0, 2, 3, 4, 12, 13, 14], [⟨.normal, [0, 11], (.cons (.ptr (.cons (.own t_api_Prov) .nil)) (.cons (.ptr (.cons (.val (.int .i64)) (.cons (.val .bool) .nil))) .nil)), [some 0, none, some 2]⟩], fun _ => [], relate_maker_slots_p0_j73_v⟩
noncomputable def relate_maker_slots_p0_l2_step (g : T33 → Option ((V_relate_maker × Unit) ⊕ Empty)) (x : T33) : Option ((V_relate_maker × Unit) ⊕ Empty) :=
  cond (decide (x.2.2.2.2.2.2.1 < x.2.2.2.2.2.1))
    (ck (inB x.2.2.2.2.2.2.1 (x.2.2.2.2.1.length)) <|
    ck (inB x.2.2.2.2.2.2.1 (x.2.1.length)) <|
    let v1 := rdL t_api_Slot x.2.2.2.2.1 x.2.2.2.2.2.2.1
    Option.bind (relate_maker_put_p0 (x.1, v1.1, (rdL t_api_Slot x.2.1 x.2.2.2.2.2.2.1).1, x.2.2.1, IntKind.i64.wrap (x.2.2.2.1 + x.2.2.2.2.2.2.1), ())) fun y1 => out1 y1
      (fun z2 =>
        ck (inB x.2.2.2.2.2.2.1 (x.2.1.length)) <|
        Option.bind (relate_maker_slots_p0_j73_v (z2.1, v1, x.2.1, x.2.2.1, x.2.2.2.1, x.2.2.2.2.2.2.1, (rdL t_api_Slot x.2.1 x.2.2.2.2.2.2.1).2)) fun y3 => out1 y3
          (fun z4 =>
            g (z4.1, x.2.1, x.2.2.1, x.2.2.2.1, x.2.2.2.2.1, x.2.2.2.2.2.1, IntKind.i64.wrap (x.2.2.2.2.2.2.1 + (1 : Int)), ()))))
    (some (.inl (x.1, ())))
noncomputable def k42l2 : LCtr := ⟨[0, 2, 3, 4, 12, 13, 14], (.cons (.ptr (.cons (.own t_api_Prov) .nil)) (.cons (.val (.lst t_api_Slot)) (.cons (.val (.int .i64)) (.cons (.val (.int .i64)) (.cons (.val (.lst t_api_Slot)) (.cons (.val (.int .i64)) (.cons (.val (.int .i64)) .nil))))))), [some 0, none], [0, 1, 2, 3, 4], [⟨(.exit 0), [0], (.cons (.ptr (.cons (.own t_api_Prov) .nil)) .nil), [some 0, none]⟩], fun _ => [], lim relate_maker_slots_p0_l2_step⟩
theorem k42s : LsOK Try.prog Try.f146.ntmps (codeOf Try.f146) [(2, k42l2), (655433, k42l1)] := loop_E 2 k42l2 k42 (join_E 655433 k42l1 k42 trivial (by kernel_rfl) (fun x => by kernel_rfl)) (by kernel_rfl) rfl (fun g x => by kernel_rfl)
noncomputable def relate_maker_slots_p0 (x : (V_relate_maker × (List V_api_Slot) × (List V_api_Slot) × Int × Int × Unit)) : Option ((V_relate_maker × Unit) ⊕ Empty) :=
  Option.bind (lim relate_maker_slots_p0_l2_step (x.1, x.2.2.1, x.2.2.2.1, x.2.2.2.2.1, x.2.1, (x.2.1.length : Int), (0 : Int), ())) fun y5 => out1 y5
    (fun z6 =>
      some (.inl z6))
noncomputable def k42L : LCtr := ⟨[0, 1, 2, 3, 4], (.cons (.ptr (.cons (.own t_api_Prov) .nil)) (.cons (.val (.lst t_api_Slot)) (.cons (.val (.lst t_api_Slot)) (.cons (.val (.int .i64)) (.cons (.val (.int .i64)) .nil))))), [], [], [⟨.normal, [0], (.cons (.ptr (.cons (.own t_api_Prov) .nil)) .nil), [some 0, none]⟩], fun _ => [], relate_maker_slots_p0⟩
noncomputable def relate_maker_slots_p0_c : PI := mkPI Try.f146 k42L
theorem relate_maker_slots_p0_ok : PIOK Try.prog 146 relate_maker_slots_p0_c := proc_E k42 Try.func146 k42s (by kernel_rfl) (fun x => by kernel_rfl)
/-! ### easement/relate.Flow: function 116 -/
noncomputable def k43 : FE Try.prog := ⟨[(142, row_Shape_c)], [(146, [relate_maker_slots_p0_c])], [], [], ⟨row_Shape_ok, trivial⟩, ⟨⟨relate_maker_slots_p0_ok, trivial⟩, trivial⟩, trivial⟩
noncomputable def relate_Flow (x : (V_api_Type × V_api_Type × Int × Int × Unit)) : Option ((List V_api_Prov) × Int × Unit) :=
  Option.bind (row_Shape (x.1, x.2.1, ())) fun y1 =>
  cond (!y1.1)
    (some (([] : List V_api_Prov), (8 : Int), ()))
    (Option.bind (relate_maker_slots_p0 ((([] : List V_api_Prov), ()), x.1.1, x.2.1.1, x.2.2)) fun y2 => out1 y2
      (fun z3 =>
        some (z3.1.1, (0 : Int), ())))
noncomputable def relate_Flow_c : Ctr := ⟨(.cons t_api_Type (.cons t_api_Type (.cons (.int .i64) (.cons (.int .i64) .nil)))), (.cons (.lst t_api_Prov) (.cons (.int .i64) .nil)), relate_Flow, none⟩
theorem relate_Flow_ok : CtrOK Try.prog 116 relate_Flow_c := fun_E (ls := []) k43 Try.func116 trivial (by kernel_rfl) (fun x => by kernel_rfl)
/-! ### easement/row.Ref: function 149 -/
noncomputable def row_Ref_l6_step (g : (V_api_Type × Bool × (List V_api_Slot) × Int × Int × Unit) → Option ((V_api_Type × Unit) ⊕ Empty)) (x : (V_api_Type × Bool × (List V_api_Slot) × Int × Int × Unit)) : Option ((V_api_Type × Unit) ⊕ Empty) :=
  cond (decide (x.2.2.2.2.1 < x.2.2.2.1))
    (ck (inB x.2.2.2.2.1 (x.2.2.1.length)) <|
    let v1 := rdL t_api_Slot x.2.2.1 x.2.2.2.2.1
    let v2 := x.1.1 ++ [(v1.1, cond v1.2.1 true x.2.1, ())]
    ck (roomB v2.length 19) <|
    g ((v2, ()), x.2.1, x.2.2.1, x.2.2.2.1, IntKind.i64.wrap (x.2.2.2.2.1 + (1 : Int)), ()))
    (some (.inl (x.1, ())))
noncomputable def k44l1 : LCtr := ⟨[7, 2, 15, 16, 17], (.cons (.ptr (.cons (.own t_api_Slot) .nil)) (.cons (.val .bool) (.cons (.val (.lst t_api_Slot)) (.cons (.val (.int .i64)) (.cons (.val (.int .i64)) .nil))))), [some 0, none], [6, 7], [⟨(.exit 0), [7], (.cons (.ptr (.cons (.own t_api_Slot) .nil)) .nil), [some 0, none]⟩], fun _ => [], lim row_Ref_l6_step⟩
theorem k44s : LsOK Try.prog Try.f149.ntmps (codeOf Try.f149) [(6, k44l1)] := loop_E 6 k44l1 k0 trivial (by kernel_rfl) rfl (fun g x => by kernel_rfl)
noncomputable def row_Ref (x : (V_api_Type × Int × Bool × Unit)) : Option (V_api_Type × Unit) :=
  Option.bind (lim row_Ref_l6_step (([(x.2.1, false, ())], ()), x.2.2.1, x.1.1, (x.1.1.length : Int), (0 : Int), ())) fun y1 => out1 y1
    (fun z2 =>
      some z2)
noncomputable def row_Ref_c : Ctr := ⟨(.cons t_api_Type (.cons (.int .i64) (.cons .bool .nil))), (.cons t_api_Type .nil), row_Ref, none⟩
theorem row_Ref_ok : CtrOK Try.prog 149 row_Ref_c := fun_E k0 Try.func149 k44s (by kernel_rfl) (fun x => by kernel_rfl)
/-! ### easement/relate.Loan: function 119 -/
noncomputable def k45 : FE Try.prog := ⟨[(149, row_Ref_c), (142, row_Shape_c)], [(150, [relate_maker_put_p0_c]), (146, [relate_maker_slots_p0_c])], [], [], ⟨row_Ref_ok, row_Shape_ok, trivial⟩, ⟨⟨relate_maker_put_p0_ok, trivial⟩, ⟨relate_maker_slots_p0_ok, trivial⟩, trivial⟩, trivial⟩
noncomputable def relate_Loan (x : (V_api_Type × V_api_Type × Int × Bool × Unit)) : Option ((List V_api_Prov) × Int × Unit) :=
  Option.bind (row_Ref (x.1, x.2.2)) fun y1 =>
  Option.bind (row_Shape (y1.1, x.2.1, ())) fun y2 =>
  cond (!y2.1)
    (some (([] : List V_api_Prov), (8 : Int), ()))
    (ck (inB (0 : Int) (x.2.1.1.length)) <|
    Option.bind (relate_maker_put_p0 ((([] : List V_api_Prov), ()), x.2.2.1, (rdL t_api_Slot x.2.1.1 (0 : Int)).1, (2 : Int), (0 : Int), ())) fun y3 => out1 y3
      (fun z4 =>
        ck (decide (0 ≤ (1 : Int)) && decide ((1 : Int) ≤ x.2.1.1.length)) <|
        Option.bind (relate_maker_slots_p0 (z4.1, x.1.1, x.2.1.1.drop (1 : Int).toNat, (1 : Int), (1 : Int), ())) fun y5 => out1 y5
          (fun z6 =>
            some (z6.1.1, (0 : Int), ()))))
noncomputable def relate_Loan_c : Ctr := ⟨(.cons t_api_Type (.cons t_api_Type (.cons (.int .i64) (.cons .bool .nil)))), (.cons (.lst t_api_Prov) (.cons (.int .i64) .nil)), relate_Loan, none⟩
theorem relate_Loan_ok : CtrOK Try.prog 119 relate_Loan_c := fun_E (ls := []) k45 Try.func119 trivial (by kernel_rfl) (fun x => by kernel_rfl)
/-! ### slices.Clone[[]easement/api.Slot,easement/api.Slot]: function 161 -/
noncomputable def slices_Clone_80 (x : ((List V_api_Slot) × Unit)) : Option ((List V_api_Slot) × Unit) :=
  cond (x.1.isEmpty) (agree
    (some (([] : List V_api_Slot), ()))
    (let v1 := ([] : List V_api_Slot) ++ x.1
    ck (roomB v1.length 19) <|
    some (v1, ())))
    (let v1 := ([] : List V_api_Slot) ++ x.1
    ck (roomB v1.length 19) <|
    some (v1, ()))
noncomputable def slices_Clone_80_c : Ctr := ⟨(.cons (.lst t_api_Slot) .nil), (.cons (.lst t_api_Slot) .nil), slices_Clone_80, none⟩
theorem slices_Clone_80_ok : CtrOK Try.prog 161 slices_Clone_80_c := fun_E (ls := []) k0 Try.func161 trivial (by kernel_rfl) (fun x => by kernel_rfl)
/-! ### easement/row.Deref: function 151 -/
noncomputable def k47 : FE Try.prog := ⟨[(161, slices_Clone_80_c)], [], [], [], ⟨slices_Clone_80_ok, trivial⟩, trivial, trivial⟩
noncomputable def row_Deref (x : (V_api_Type × Unit)) : Option (V_api_Type × Int × Bool × Unit) :=
  let v1 := (x.1.1.length : Int) == (0 : Int)
  ck ((inB (0 : Int) (x.1.1.length)) || !(!v1)) <|
  cond (cond v1 true (rdL t_api_Slot x.1.1 (0 : Int)).2.1)
    (some ((([] : List V_api_Slot), ()), (0 : Int), false, ()))
    (ck (decide (0 ≤ (1 : Int)) && decide ((1 : Int) ≤ x.1.1.length)) <|
    Option.bind (slices_Clone_80 (x.1.1.drop (1 : Int).toNat, ())) fun y1 =>
    ck (inB (0 : Int) (x.1.1.length)) <|
    some (y1, (rdL t_api_Slot x.1.1 (0 : Int)).1, true, ()))
noncomputable def row_Deref_c : Ctr := ⟨(.cons t_api_Type .nil), (.cons t_api_Type (.cons (.int .i64) (.cons .bool .nil))), row_Deref, none⟩
theorem row_Deref_ok : CtrOK Try.prog 151 row_Deref_c := fun_E (ls := []) k47 Try.func151 trivial (by kernel_rfl) (fun x => by kernel_rfl)
/-! ### easement/relate.Again: function 120 -/
noncomputable def k48 : FE Try.prog := ⟨[(151, row_Deref_c), (142, row_Shape_c)], [(150, [relate_maker_put_p0_c]), (146, [relate_maker_slots_p0_c])], [], [], ⟨row_Deref_ok, row_Shape_ok, trivial⟩, ⟨⟨relate_maker_put_p0_ok, trivial⟩, ⟨relate_maker_slots_p0_ok, trivial⟩, trivial⟩, trivial⟩
noncomputable def relate_Again_l12_step (g : (Bool × (List V_api_Slot) × Int × Int × Unit) → Option (((List V_api_Prov) × Int × Unit) ⊕ (Unit ⊕ Empty))) (x : (Bool × (List V_api_Slot) × Int × Int × Unit)) : Option (((List V_api_Prov) × Int × Unit) ⊕ (Unit ⊕ Empty)) :=
  cond (decide (x.2.2.2.1 < x.2.2.1))
    (ck (inB x.2.2.2.1 (x.2.1.length)) <|
    cond (cond x.1 (!(rdL t_api_Slot x.2.1 x.2.2.2.1).2.1) false)
      (some (.inl (([] : List V_api_Prov), (8 : Int), ())))
      (g (x.1, x.2.1, x.2.2.1, IntKind.i64.wrap (x.2.2.2.1 + (1 : Int)), ())))
    (some (.inr (.inl ())))
noncomputable def k48l1 : LCtr := ⟨[3, 44, 45, 46], (.cons (.val .bool) (.cons (.val (.lst t_api_Slot)) (.cons (.val (.int .i64)) (.cons (.val (.int .i64)) .nil)))), [], [2, 5, 10, 11], [⟨.ret, [8, 9], (.cons (.own t_api_Prov) (.cons (.val (.int .i64)) .nil)), [none]⟩, ⟨(.exit 0), [], .nil, []⟩], fun _ => [], lim relate_Again_l12_step⟩
theorem k48s : LsOK Try.prog Try.f120.ntmps (codeOf Try.f120) [(12, k48l1)] := loop_E 12 k48l1 k48 trivial (by kernel_rfl) rfl (fun g x => by kernel_rfl)
noncomputable def relate_Again (x : (V_api_Type × V_api_Type × Int × Bool × Unit)) : Option ((List V_api_Prov) × Int × Unit) :=
  Option.bind (row_Deref (x.1, ())) fun y1 =>
  Option.bind (row_Deref (x.2.1, ())) fun y2 =>
  cond (!(cond (!y1.2.2.1) true (!y2.2.2.1)))
    (Option.bind (row_Shape (x.1, x.2.1, ())) fun y3 =>
    cond (!y3.1)
      (some (([] : List V_api_Prov), (8 : Int), ()))
      (Option.bind (lim relate_Again_l12_step (x.2.2.2.1, y1.1.1, (y1.1.1.length : Int), (0 : Int), ())) fun y4 => out2 y4
        (fun z5 =>
          some z5)
        (fun z6 =>
          Option.bind (relate_maker_put_p0 ((([] : List V_api_Prov), ()), y1.2.1, x.2.2.1, (3 : Int), (0 : Int), ())) fun y7 => out1 y7
            (fun z8 =>
              ck (inB (0 : Int) (x.2.1.1.length)) <|
              Option.bind (relate_maker_put_p0 (z8.1, x.2.2.1, (rdL t_api_Slot x.2.1.1 (0 : Int)).1, (2 : Int), (0 : Int), ())) fun y9 => out1 y9
                (fun z10 =>
                  ck (decide (0 ≤ (1 : Int)) && decide ((1 : Int) ≤ x.2.1.1.length)) <|
                  Option.bind (relate_maker_slots_p0 (z10.1, y1.1.1, x.2.1.1.drop (1 : Int).toNat, (1 : Int), (1 : Int), ())) fun y11 => out1 y11
                    (fun z12 =>
                      some (z12.1.1, (0 : Int), ())))))))
    (some (([] : List V_api_Prov), (8 : Int), ()))
noncomputable def relate_Again_c : Ctr := ⟨(.cons t_api_Type (.cons t_api_Type (.cons (.int .i64) (.cons .bool .nil)))), (.cons (.lst t_api_Prov) (.cons (.int .i64) .nil)), relate_Again, none⟩
theorem relate_Again_ok : CtrOK Try.prog 120 relate_Again_c := fun_E k48 Try.func120 k48s (by kernel_rfl) (fun x => by kernel_rfl)
/-! ### easement/stmt.needs: function 76 -/
noncomputable def k49 : FE Try.prog := ⟨[(116, relate_Flow_c), (119, relate_Loan_c), (120, relate_Again_c)], [], [], [], ⟨relate_Flow_ok, relate_Loan_ok, relate_Again_ok, trivial⟩, trivial, trivial⟩
noncomputable def stmt_needs (x : (V_api_Prov × (List V_api_Type) × Unit)) : Option ((List V_api_Prov) × Int × Unit) :=
  cond (x.1.1 == (1 : Int))
    (ck (inB x.1.2.2.1 (x.2.1.length)) <|
    ck (inB x.1.2.1 (x.2.1.length)) <|
    Option.bind (relate_Flow (rdL t_api_Type x.2.1 x.1.2.2.1, rdL t_api_Type x.2.1 x.1.2.1, (1 : Int), (0 : Int), ())) fun y1 =>
    some y1)
    (cond (x.1.1 == (2 : Int))
      (ck (inB x.1.2.2.1 (x.2.1.length)) <|
      ck (inB x.1.2.1 (x.2.1.length)) <|
      Option.bind (relate_Loan (rdL t_api_Type x.2.1 x.1.2.2.1, rdL t_api_Type x.2.1 x.1.2.1, x.1.2.2.2)) fun y2 =>
      some y2)
      (cond (x.1.1 == (3 : Int))
        (ck (inB x.1.2.2.1 (x.2.1.length)) <|
        ck (inB x.1.2.1 (x.2.1.length)) <|
        Option.bind (relate_Again (rdL t_api_Type x.2.1 x.1.2.2.1, rdL t_api_Type x.2.1 x.1.2.1, x.1.2.2.2)) fun y3 =>
        some y3)
        (some (([] : List V_api_Prov), (0 : Int), ()))))
noncomputable def stmt_needs_c : Ctr := ⟨(.cons t_api_Prov (.cons (.lst t_api_Type) .nil)), (.cons (.lst t_api_Prov) (.cons (.int .i64) .nil)), stmt_needs, none⟩
theorem stmt_needs_ok : CtrOK Try.prog 76 stmt_needs_c := fun_E (ls := []) k49 Try.func76 trivial (by kernel_rfl) (fun x => by kernel_rfl)
/-! ### easement/stmt.Check: function 75 -/
noncomputable def k50 : FE Try.prog := ⟨[(118, stmt_form_c), (76, stmt_needs_c)], [], [], [], ⟨stmt_form_ok, stmt_needs_ok, trivial⟩, trivial, trivial⟩
noncomputable def stmt_Check_j39x_v (x : (V_api_Prov × V_stmt_fields × Int × Bool × Unit)) : Option ((Bool × V_api_Prov × V_stmt_fields × Unit) ⊕ Empty) :=
  cond (x.2.2.2.1)
    (some (.inl (x.2.2.2.1, x.1, x.2.1, ())))
    (some (.inl (cond x.2.1.2.2.1 (cond (decide (x.1.2.2.2.1 < (0 : Int))) true (decide (x.1.2.2.2.1 ≥ x.2.2.1))) false, x.1, x.2.1, ())))
noncomputable def k50l1 : LCtr := ⟨[3, 7, 2, 19], (.cons (.ptr q44) (.cons (.ptr (.cons (.val .bool) (.cons (.val .bool) (.cons (.val .bool) .nil)))) (.cons (.val (.int .i64)) (.cons (.val .bool) .nil)))), [], [1, 3], [⟨.normal, [19, 3, 7], q53, [some 0, some 1]⟩], fun _ => [], stmt_Check_j39x_v⟩
noncomputable def stmt_Check_j39_v (x : (V_api_Prov × V_stmt_fields × (List V_api_Type) × Int × Bool × Unit)) : Option ((Bool × V_api_Prov × V_stmt_fields × Unit) ⊕ Empty) :=
  cond (x.2.2.2.2.1)
    (some (.inl (x.2.2.2.2.1, x.1, x.2.1, ())))
    (Option.bind (stmt_Check_j39x_v (x.1, x.2.1, x.2.2.2.1, cond x.2.1.2.1 (cond (decide (x.1.2.2.1 < (0 : Int))) true (decide (x.1.2.2.1 ≥ (x.2.2.1.length : Int)))) false, ())) fun y2 => out1 y2
      (fun z3 =>
        some (.inl z3)))
noncomputable def k50l2 : LCtr := ⟨[3, 7, 1, 2, 19], (.cons (.ptr q44) (.cons (.ptr (.cons (.val .bool) (.cons (.val .bool) (.cons (.val .bool) .nil)))) (.cons (.val (.lst t_api_Type)) (.cons (.val (.int .i64)) (.cons (.val .bool) .nil))))), [], [1, 3], [⟨.normal, [19, 3, 7], q53, [some 0, some 1]⟩], fun _ => [], stmt_Check_j39_v⟩
theorem k50s : LsOK Try.prog Try.f75.ntmps (codeOf Try.f75) [(42949672999, k50l2), (51539607591, k50l1)] := join_E 42949672999 k50l2 k50 (join_E 51539607591 k50l1 k50 trivial (by kernel_rfl) (fun x => by kernel_rfl)) (by kernel_rfl) (fun x => by kernel_rfl)
noncomputable def stmt_Check (x : (V_api_Prov × (List V_api_Type) × Int × Unit)) : Option (Int × Unit) :=
  Option.bind (stmt_form (x.1, ())) fun y1 =>
  cond (!y1.2.1)
    (some ((3 : Int), ()))
    (Option.bind (stmt_Check_j39_v (x.1, y1.1, x.2.1, x.2.2.1, cond y1.1.1 (cond (decide (x.1.2.1 < (0 : Int))) true (decide (x.1.2.1 ≥ (x.2.1.length : Int)))) false, ())) fun y4 => out1 y4
      (fun z5 =>
        cond (z5.1)
          (some ((7 : Int), ()))
          (Option.bind (stmt_needs (z5.2.1, x.2.1, ())) fun y6 =>
          some y6.2)))
noncomputable def stmt_Check_c : Ctr := ⟨(.cons t_api_Prov (.cons (.lst t_api_Type) (.cons (.int .i64) .nil))), (.cons (.int .i64) .nil), stmt_Check, none⟩
theorem stmt_Check_ok : CtrOK Try.prog 75 stmt_Check_c := fun_E k50 Try.func75 k50s (by kernel_rfl) (fun x => by kernel_rfl)
/-! ### easement/term.form: function 113 -/
noncomputable def term_form_j21_v (x : V_api_Slot) : Option ((Bool × Unit) ⊕ Empty) :=
  cond (x.2.1)
    (some (.inl x.2))
    (some (.inl (x.1 == (4 : Int), ())))
noncomputable def k51l1 : LCtr := ⟨[9, 10], (.cons (.val (.int .i64)) (.cons (.val .bool) .nil)), [], [1, 3, 4, 9], [⟨.normal, [10], (.cons (.val .bool) .nil), []⟩], fun _ => [], term_form_j21_v⟩
noncomputable def term_form_j27_v (x : (V_api_Term × Int × Bool × Unit)) : Option T36 :=
  cond (x.2.2.1)
    (some (.inl (maxI (1 : Int) (x.1.2.2.2.1.length : Int), x.1, ())))
    (cond (x.2.1 == (3 : Int))
      (some (.inl ((0 : Int), x.1, ())))
      (some (.inr (.inl ((3 : Int), x.1, ())))))
noncomputable def k51l2 : LCtr := ⟨[1, 9, 13], (.cons (.ptr q24) (.cons (.val (.int .i64)) (.cons (.val .bool) .nil))), [], [1], [⟨.normal, [4, 1], (.cons (.val (.int .i64)) (.cons (.ptr q24) .nil)), [some 0]⟩, ⟨.ret, [2, 1], (.cons (.val (.int .i64)) (.cons (.ptr q24) .nil)), [some 0]⟩], fun _ => [], term_form_j27_v⟩
noncomputable def term_form_j21x_v (x : (V_api_Term × Int × Int × Bool × Unit)) : Option T36 :=
  cond (x.2.2.2.1)
    (some (.inl (x.2.1, x.1, ())))
    (Option.bind (term_form_j27_v (x.1, x.2.2.1, x.2.2.1 == (2 : Int), ())) fun y3 => out2 y3
      (fun z4 =>
        some (.inl z4))
      (fun z5 =>
        some (.inr (.inl z5))))
noncomputable def k51l3 : LCtr := ⟨[1, 4, 9, 10], (.cons (.ptr q24) (.cons (.val (.int .i64)) (.cons (.val (.int .i64)) (.cons (.val .bool) .nil)))), [], [1, 3], [⟨.normal, [4, 1], (.cons (.val (.int .i64)) (.cons (.ptr q24) .nil)), [some 0]⟩, ⟨.ret, [2, 1], (.cons (.val (.int .i64)) (.cons (.ptr q24) .nil)), [some 0]⟩], fun _ => [], term_form_j21x_v⟩
noncomputable def term_form_j43x_v (x : (V_api_Term × Bool × Bool × Unit)) : Option ((Bool × V_api_Term × Unit) ⊕ Empty) :=
  cond (x.2.2.1)
    (some (.inl (x.2.2.1, x.1, ())))
    (some (.inl (cond (cond (!x.2.1) (x.1.1 != (2 : Int)) false) (decide ((x.1.2.2.2.2.1.length : Int) > (0 : Int))) false, x.1, ())))
noncomputable def k51l4 : LCtr := ⟨[1, 3, 21], (.cons (.ptr q24) (.cons (.val .bool) (.cons (.val .bool) .nil))), [], [1], [⟨.normal, [21, 1], (.cons (.val .bool) (.cons (.ptr q24) .nil)), [some 0]⟩], fun _ => [], term_form_j43x_v⟩
noncomputable def term_form_j43_v (x : (V_api_Term × Bool × Bool × Unit)) : Option ((Bool × V_api_Term × Unit) ⊕ Empty) :=
  cond (x.2.2.1)
    (some (.inl (x.2.2.1, x.1, ())))
    (Option.bind (term_form_j43x_v (x.1, x.2.1, cond (!x.2.1) (cond (cond (x.1.2.1 != (0 : Int)) true (x.1.2.2.1 != (0 : Int))) true (decide ((x.1.2.2.2.2.2.1.length : Int) > (0 : Int)))) false, ())) fun y8 => out1 y8
      (fun z9 =>
        some (.inl z9)))
noncomputable def k51l5 : LCtr := ⟨[1, 3, 21], (.cons (.ptr q24) (.cons (.val .bool) (.cons (.val .bool) .nil))), [], [1], [⟨.normal, [21, 1], (.cons (.val .bool) (.cons (.ptr q24) .nil)), [some 0]⟩], fun _ => [], term_form_j43_v⟩
theorem k51s : LsOK Try.prog Try.f113.ntmps (codeOf Try.f113) [(103079215147, k51l5), (111669149739, k51l4), (60129542165, k51l3), (77310459931, k51l2), (51539607573, k51l1)] := join_E 103079215147 k51l5 k0 (join_E 111669149739 k51l4 k0 (join_E 60129542165 k51l3 k0 (join_E 77310459931 k51l2 k0 (join_E 51539607573 k51l1 k0 trivial (by kernel_rfl) (fun x => by kernel_rfl)) (by kernel_rfl) (fun x => by kernel_rfl)) (by kernel_rfl) (fun x => by kernel_rfl)) (by kernel_rfl) (fun x => by kernel_rfl)) (by kernel_rfl) (fun x => by kernel_rfl)
noncomputable def term_form (x : (V_api_Term × Unit)) : Option (Int × Unit) :=
  Option.bind (term_form_j21_v (x.1.1, x.1.1 == (1 : Int), ())) fun y1 => out1 y1
    (fun z2 =>
      Option.bind (term_form_j21x_v (x.1, (1 : Int), x.1.1, z2)) fun y6 => out2 y6
        (fun z7 =>
          Option.bind (term_form_j43_v (z7.2.1, x.1.1 == (4 : Int), (z7.2.1.2.2.2.1.length : Int) != z7.1, ())) fun y10 => out1 y10
            (fun z11 =>
              cond (z11.1)
                (some ((3 : Int), ()))
                (cond (cond (cond (decide ((z11.2.1.2.2.2.1.length : Int) > (16 : Int))) true (decide ((z11.2.1.2.2.2.2.1.length : Int) > (16 : Int)))) true (decide ((z11.2.1.2.2.2.2.2.1.length : Int) > (16 : Int))))
                  (some ((6 : Int), ()))
                  (some ((0 : Int), ())))))
        (fun z12 =>
          some (z12.1, ())))
noncomputable def term_form_c : Ctr := ⟨(.cons t_api_Term .nil), (.cons (.int .i64) .nil), term_form, none⟩
theorem term_form_ok : CtrOK Try.prog 113 term_form_c := fun_E k0 Try.func113 k51s (by kernel_rfl) (fun x => by kernel_rfl)
/-! ### easement/term.beyond: function 114 -/
noncomputable def term_beyond (x : (Int × Unit)) : Option ((Option (Int × Unit)) × Unit) :=
  some (some x, ())
noncomputable def term_beyond_c : Ctr := ⟨(.cons (.int .i64) .nil), (.cons (.ptr (.cons (.int .i64) .nil)) .nil), term_beyond, some 144⟩
theorem term_beyond_ok : CtrOK Try.prog 114 term_beyond_c := fun_EC (ls := []) k0 Try.func114 trivial (by kernel_rfl) (fun x => by kernel_rfl)
/-! ### easement/term.beyond$1: function 144 -/
noncomputable def term_beyond_1 (x : (Int × (Option (Int × Unit)) × Unit)) : Option (Bool × Unit) :=
  ck ((x.2.1.isSome) || !(!(decide (x.1 < (0 : Int))))) <|
  some (cond (decide (x.1 < (0 : Int))) true (decide (x.1 ≥ (x.2.1.getD (Ty.dflt (.cons (.int .i64) .nil))).1)), ())
noncomputable def term_beyond_1_c : Ctr := ⟨(.cons (.int .i64) (.cons (.ptr (.cons (.int .i64) .nil)) .nil)), (.cons .bool .nil), term_beyond_1, none⟩
theorem term_beyond_1_ok : CtrOK Try.prog 144 term_beyond_1_c := fun_E (ls := []) k0 Try.func144 trivial (by kernel_rfl) (fun x => by kernel_rfl)
/-! ### slices.IndexFunc[[]int,int]: function 145, at objects -/
noncomputable def k54 : FE Try.prog := ⟨[(144, term_beyond_1_c)], [], [], [], ⟨term_beyond_1_ok, trivial⟩, trivial, trivial⟩
noncomputable def slices_IndexFunc_157_p0_l4_step (g : T37 → Option ((Int × Unit) ⊕ (Unit ⊕ Empty))) (x : T37) : Option ((Int × Unit) ⊕ (Unit ⊕ Empty)) :=
  cond (decide (x.2.2.2.1 < x.2.2.1))
    (ck (inB x.2.2.2.1 (x.1.length)) <|
    Option.bind (term_beyond_1 (rdL (.int .i64) x.1 x.2.2.2.1, x.2.1)) fun y1 =>
    cond (y1.1)
      (some (.inl x.2.2.2))
      (g (x.1, x.2.1, x.2.2.1, IntKind.i64.wrap (x.2.2.2.1 + (1 : Int)), ())))
    (some (.inr (.inl ())))
noncomputable def k54l1 : LCtr := ⟨[0, 1, 7, 8], (.cons (.val (.lst (.int .i64))) (.cons (.clo 144 (.cons (.val (.ptr (.cons (.int .i64) .nil))) .nil)) (.cons (.val (.int .i64)) (.cons (.val (.int .i64)) .nil)))), [], [0, 1], [⟨.ret, [4], (.cons (.val (.int .i64)) .nil), []⟩, ⟨(.exit 0), [], .nil, []⟩], fun _ => [], lim slices_IndexFunc_157_p0_l4_step⟩
theorem k54s : LsOK Try.prog Try.f145.ntmps (codeOf Try.f145) [(4, k54l1)] := loop_E 4 k54l1 k54 trivial (by kernel_rfl) rfl (fun g x => by kernel_rfl)
noncomputable def slices_IndexFunc_157_p0 (x : ((List Int) × ((Option (Int × Unit)) × Unit) × Unit)) : Option ((Int × Unit) ⊕ Empty) :=
  Option.bind (lim slices_IndexFunc_157_p0_l4_step (x.1, x.2.1, (x.1.length : Int), (0 : Int), ())) fun y2 => out2 y2
    (fun z3 =>
      some (.inl z3))
    (fun z4 =>
      some (.inl ((-1 : Int), ())))
noncomputable def k54L : LCtr := ⟨[0, 1], q58, [], [], [⟨.ret, [4], (.cons (.val (.int .i64)) .nil), []⟩], fun _ => [], slices_IndexFunc_157_p0⟩
noncomputable def slices_IndexFunc_157_p0_c : PI := mkPI Try.f145 k54L
theorem slices_IndexFunc_157_p0_ok : PIOK Try.prog 145 slices_IndexFunc_157_p0_c := proc_E k54 Try.func145 k54s (by kernel_rfl) (fun x => by kernel_rfl)
/-! ### slices.ContainsFunc[[]int,int]: function 115, at objects -/
noncomputable def k55 : FE Try.prog := ⟨[], [(145, [slices_IndexFunc_157_p0_c])], [], [], trivial, ⟨⟨slices_IndexFunc_157_p0_ok, trivial⟩, trivial⟩, trivial⟩
noncomputable def slices_ContainsFunc_128_p0 (x : ((List Int) × ((Option (Int × Unit)) × Unit) × Unit)) : Option ((Bool × Unit) ⊕ Empty) :=
  Option.bind (slices_IndexFunc_157_p0 x) fun y1 => out1 y1
    (fun z2 =>
      some (.inl (decide (z2.1 ≥ (0 : Int)), ())))
noncomputable def k55L : LCtr := ⟨[0, 1], q58, [], [], [⟨.ret, [4], (.cons (.val .bool) .nil), []⟩], fun _ => [], slices_ContainsFunc_128_p0⟩
noncomputable def slices_ContainsFunc_128_p0_c : PI := mkPI Try.f115 k55L
theorem slices_ContainsFunc_128_p0_ok : PIOK Try.prog 115 slices_ContainsFunc_128_p0_c := proc_E (ls := []) k55 Try.func115 trivial (by kernel_rfl) (fun x => by kernel_rfl)
/-! ### slices.Clone[[]easement/api.Slot,easement/api.Slot]: function 161, at objects -/
noncomputable def slices_Clone_80_p0 (x : V_api_Type) : Option (V_api_Type ⊕ Empty) :=
  cond (x.1.isEmpty) (agree
    (some (.inl (([] : List V_api_Slot), ())))
    (let v1 := ([] : List V_api_Slot) ++ x.1
    ck (roomB v1.length 19) <|
    some (.inl (v1, ()))))
    (let v1 := ([] : List V_api_Slot) ++ x.1
    ck (roomB v1.length 19) <|
    some (.inl (v1, ())))
noncomputable def k57L : LCtr := ⟨[0], (.cons (.val (.lst t_api_Slot)) .nil), [], [], [⟨.ret, [2], (.cons (.own t_api_Slot) .nil), [none]⟩], fun _ => [], slices_Clone_80_p0⟩
noncomputable def slices_Clone_80_p0_c : PI := mkPI Try.f161 k57L
theorem slices_Clone_80_p0_ok : PIOK Try.prog 161 slices_Clone_80_p0_c := proc_E (ls := []) k0 Try.func161 trivial (by kernel_rfl) (fun x => by kernel_rfl)
/-! ### easement/row.Clone: function 160, at objects -/
noncomputable def k58 : FE Try.prog := ⟨[], [(161, [slices_Clone_80_p0_c])], [], [], trivial, ⟨⟨slices_Clone_80_p0_ok, trivial⟩, trivial⟩, trivial⟩
noncomputable def row_Clone_p0 (x : (V_api_Type × Unit)) : Option ((V_api_Type × Unit) ⊕ Empty) :=
  Option.bind (slices_Clone_80_p0 x.1) fun y1 => out1 y1
    (fun z2 =>
      some (.inl (z2, ())))
noncomputable def k58L : LCtr := ⟨[0], (.cons (.val t_api_Type) .nil), [], [], [⟨.ret, [2], (.cons (.ptr (.cons (.own t_api_Slot) .nil)) .nil), [none, none]⟩], fun _ => [], row_Clone_p0⟩
noncomputable def row_Clone_p0_c : PI := mkPI Try.f160 k58L
theorem row_Clone_p0_ok : PIOK Try.prog 160 row_Clone_p0_c := proc_E (ls := []) k58 Try.func160 trivial (by kernel_rfl) (fun x => by kernel_rfl)
/-! ### easement/row.Subst: function 147 -/
noncomputable def k59 : FE Try.prog := ⟨[], [(160, [row_Clone_p0_c])], [], [], trivial, ⟨⟨row_Clone_p0_ok, trivial⟩, trivial⟩, trivial⟩
noncomputable def row_Subst_l6_step (g : (V_api_Type × V_api_Type × (List Int) × Int × Int × Unit) → Option T38) (x : (V_api_Type × V_api_Type × (List Int) × Int × Int × Unit)) : Option T38 :=
  cond (decide (x.2.2.2.2.1 < x.2.2.2.1))
    (ck (inB x.2.2.2.2.1 (x.2.1.1.length)) <|
    let v1 := (x.2.1.1.getD x.2.2.2.2.1.toNat (Ty.dflt t_api_Slot)).1
    cond (cond (decide (v1 < (0 : Int))) true (decide (v1 ≥ (x.2.2.1.length : Int))))
      (some (.inl ((7 : Int), ((), ()), x.2.1, ())))
      (ck (inB v1 (x.2.2.1.length)) <|
      ck (inB x.2.2.2.2.1 (x.2.1.1.length)) <|
      g (x.1, (x.2.1.1.set x.2.2.2.2.1.toNat (rdL (.int .i64) x.2.2.1 v1, (x.2.1.1.getD x.2.2.2.2.1.toNat (Ty.dflt t_api_Slot)).2), ()), x.2.2.1, x.2.2.2.1, IntKind.i64.wrap (x.2.2.2.2.1 + (1 : Int)), ())))
    (some (.inr (.inl (x.1, x.2.1, ()))))
noncomputable def k59l1 : LCtr := ⟨[4, 6, 1, 13, 14], (.cons (.ptr (.cons (.own t_api_Slot) .nil)) (.cons (.ptr (.cons (.own t_api_Slot) .nil)) (.cons (.val (.lst (.int .i64))) (.cons (.val (.int .i64)) (.cons (.val (.int .i64)) .nil))))), [some 0, some 1, some 2, some 3], [4, 6], [⟨.ret, [5, 4, 6], (.cons (.val (.int .i64)) (.cons (.ptr (.cons (.cst false) .nil)) (.cons (.ptr (.cons (.own t_api_Slot) .nil)) .nil))), [some 0, some 2, some 3]⟩, ⟨(.exit 0), [4, 6], (.cons (.ptr (.cons (.own t_api_Slot) .nil)) (.cons (.ptr (.cons (.own t_api_Slot) .nil)) .nil)), [some 0, some 1, some 2, some 3]⟩], fun _ => [(12, .sf 3)], lim row_Subst_l6_step⟩
theorem k59s : LsOK Try.prog Try.f147.ntmps (codeOf Try.f147) [(6, k59l1)] := loop_E 6 k59l1 k59 trivial (by kernel_rfl) rfl (fun g x => by kernel_rfl)
noncomputable def row_Subst (x : (V_api_Type × (List Int) × Unit)) : Option (V_api_Type × Int × Unit) :=
  Option.bind (row_Clone_p0 (x.1, ())) fun y1 => out1 y1
    (fun z2 =>
      Option.bind (lim row_Subst_l6_step ((([] : List V_api_Slot), ()), z2.1, x.2.1, (z2.1.1.length : Int), (0 : Int), ())) fun y3 => out2 y3
        (fun z4 =>
          some ((([] : List V_api_Slot), ()), z4.1, ()))
        (fun z5 =>
          some (z5.2.1, (0 : Int), ())))
noncomputable def row_Subst_c : Ctr := ⟨(.cons t_api_Type (.cons (.lst (.int .i64)) .nil)), (.cons t_api_Type (.cons (.int .i64) .nil)), row_Subst, none⟩
theorem row_Subst_ok : CtrOK Try.prog 147 row_Subst_c := fun_E k59 Try.func147 k59s (by kernel_rfl) (fun x => by kernel_rfl)
/-! ### easement/sig.Call: function 117 -/
noncomputable def k60 : FE Try.prog := ⟨[(143, sig_Check_c), (147, row_Subst_c), (116, relate_Flow_c)], [], [], [], ⟨sig_Check_ok, row_Subst_ok, relate_Flow_ok, trivial⟩, trivial, trivial⟩
noncomputable def sig_Call_l16_step (g : T39 → Option (V_relate_maker ⊕ Empty)) (x : T39) : Option (V_relate_maker ⊕ Empty) :=
  cond (decide (x.2.2.2.2.1 < x.2.2.2.1))
    (ck (inB x.2.2.2.2.1 (x.2.2.1.length)) <|
    let v1 := rdL t_easementref08_Pair x.2.2.1 x.2.2.2.2.1
    ck (inB v1.1 (x.1.length)) <|
    ck (inB v1.2.1 (x.1.length)) <|
    let v2 := x.2.1 ++ [(rdL (.int .i64) x.1 v1.1, rdL (.int .i64) x.1 v1.2.1, (4 : Int), x.2.2.2.2.1, false, ())]
    ck (roomB v2.length 46) <|
    g (x.1, v2, x.2.2.1, x.2.2.2.1, IntKind.i64.wrap (x.2.2.2.2.1 + (1 : Int)), ()))
    (some (.inl (x.2.1, ())))
noncomputable def k60l1 : LCtr := ⟨[1, 11, 43, 44, 45], (.cons (.val (.lst (.int .i64))) (.cons (.own t_api_Prov) (.cons (.val (.lst t_easementref08_Pair)) (.cons (.val (.int .i64)) (.cons (.val (.int .i64)) .nil))))), [none], [1, 2, 4, 7], [⟨(.exit 0), [11], (.cons (.own t_api_Prov) .nil), [none]⟩], fun _ => [], lim sig_Call_l16_step⟩
noncomputable def sig_Call_l26_step (g : T40 → Option T41) (x : T40) : Option T41 :=
  cond (decide (x.2.2.2.2.2.1 < x.2.2.2.2.1))
    (ck (inB x.2.2.2.2.2.1 (x.2.2.2.1.length)) <|
    Option.bind (row_Subst (rdL t_api_Type x.2.2.2.1 x.2.2.2.2.2.1, x.1, ())) fun y4 =>
    ck (inB x.2.2.2.2.2.1 (x.2.1.length)) <|
    Option.bind (relate_Flow (rdL t_api_Type x.2.1 x.2.2.2.2.2.1, y4.1, (5 : Int), IntKind.i64.wrap (x.2.2.2.2.2.1 * (16 : Int)), ())) fun y5 =>
    cond (y5.2.1 != (0 : Int))
      (some (.inl (([] : List V_api_Prov), y5.2.1, x.2.2.1, ())))
      (ck (roomB (x.2.2.1 ++ y5.1).length 46) <|
      g (x.1, x.2.1, x.2.2.1 ++ y5.1, x.2.2.2.1, x.2.2.2.2.1, IntKind.i64.wrap (x.2.2.2.2.2.1 + (1 : Int)), ())))
    (some (.inr (.inl (x.2.2.1, ()))))
noncomputable def k60l2 : LCtr := ⟨[1, 2, 11, 67, 68, 69], (.cons (.val (.lst (.int .i64))) (.cons (.val (.lst t_api_Type)) (.cons (.own t_api_Prov) (.cons (.val (.lst t_api_Type)) (.cons (.val (.int .i64)) (.cons (.val (.int .i64)) .nil)))))), [none], [1, 4, 7], [⟨.ret, [8, 9, 11], (.cons (.own t_api_Prov) (.cons (.val (.int .i64)) (.cons (.own t_api_Prov) .nil))), [none, none]⟩, ⟨(.exit 2), [11], (.cons (.own t_api_Prov) .nil), [none]⟩], fun _ => [], lim sig_Call_l26_step⟩
theorem k60s : LsOK Try.prog Try.f117.ntmps (codeOf Try.f117) [(26, k60l2), (16, k60l1)] := loop_E 26 k60l2 k60 (loop_E 16 k60l1 k60 trivial (by kernel_rfl) rfl (fun g x => by kernel_rfl)) (by kernel_rfl) rfl (fun g x => by kernel_rfl)
noncomputable def sig_Call (x : T13) : Option ((List V_api_Prov) × Int × Unit) :=
  Option.bind (sig_Check (x.1, ())) fun y1 =>
  cond (y1.1 != (0 : Int))
    (some (([] : List V_api_Prov), y1))
    (cond (cond ((x.2.1.length : Int) != x.1.1) true ((x.2.2.1.length : Int) != (x.1.2.2.1.length : Int)))
      (some (([] : List V_api_Prov), (2 : Int), ()))
      (Option.bind (lim sig_Call_l16_step (x.2.1, ([] : List V_api_Prov), x.1.2.1, (x.1.2.1.length : Int), (0 : Int), ())) fun y2 => out1 y2
        (fun z3 =>
          Option.bind (lim sig_Call_l26_step (x.2.1, x.2.2.1, z3.1, x.1.2.2.1, (x.1.2.2.1.length : Int), (0 : Int), ())) fun y6 => out2 y6
            (fun z7 =>
              some (z7.1, z7.2.1, ()))
            (fun z8 =>
              Option.bind (row_Subst (x.1.2.2.2, x.2.1, ())) fun y9 =>
              Option.bind (relate_Flow (y9.1, x.2.2.2.1, (6 : Int), (0 : Int), ())) fun y10 =>
              cond (y10.2.1 != (0 : Int))
                (some (([] : List V_api_Prov), y10.2))
                (ck (roomB (z8.1 ++ y10.1).length 46) <|
                some (z8.1 ++ y10.1, (0 : Int), ()))))))
noncomputable def sig_Call_c : Ctr := ⟨(.cons t_api_Sig (.cons (.lst (.int .i64)) (.cons (.lst t_api_Type) (.cons t_api_Type .nil)))), (.cons (.lst t_api_Prov) (.cons (.int .i64) .nil)), sig_Call, none⟩
theorem sig_Call_ok : CtrOK Try.prog 117 sig_Call_c := fun_E k60 Try.func117 k60s (by kernel_rfl) (fun x => by kernel_rfl)
/-! ### easement/term.needs: function 73 -/
noncomputable def k61 : FE Try.prog := ⟨[(116, relate_Flow_c), (117, sig_Call_c)], [], [], [], ⟨relate_Flow_ok, sig_Call_ok, trivial⟩, trivial, trivial⟩
noncomputable def term_needs_l14_step (g : T42 → Option (((List V_api_Type) × V_term_Around × Unit) ⊕ Empty)) (x : T42) : Option (((List V_api_Type) × V_term_Around × Unit) ⊕ Empty) :=
  cond (decide (x.2.2.2.2.1 < x.2.2.2.1))
    (ck (inB x.2.2.2.2.1 (x.2.2.1.length)) <|
    let v1 := rdL (.int .i64) x.2.2.1 x.2.2.2.2.1
    ck (inB v1 (x.1.2.2.1.length)) <|
    let v2 := x.2.1 ++ [rdL t_api_Type x.1.2.2.1 v1]
    ck (roomB v2.length 26) <|
    g (x.1, v2, x.2.2.1, x.2.2.2.1, IntKind.i64.wrap (x.2.2.2.2.1 + (1 : Int)), ()))
    (some (.inl (x.2.1, x.1, ())))
noncomputable def k61l1 : LCtr := ⟨[3, 6, 25, 26, 27], (.cons (.ptr q25) (.cons (.own t_api_Type) (.cons (.val (.lst (.int .i64))) (.cons (.val (.int .i64)) (.cons (.val (.int .i64)) .nil))))), [some 0, none], [2, 3], [⟨(.exit 1), [6, 3], (.cons (.own t_api_Type) (.cons (.ptr q25) .nil)), [none, some 0]⟩], fun _ => [], lim term_needs_l14_step⟩
theorem k61s : LsOK Try.prog Try.f73.ntmps (codeOf Try.f73) [(14, k61l1)] := loop_E 14 k61l1 k61 trivial (by kernel_rfl) rfl (fun g x => by kernel_rfl)
noncomputable def term_needs (x : (V_api_Term × V_term_Around × Unit)) : Option ((List V_api_Prov) × Int × Unit) :=
  cond (x.1.1 == (3 : Int))
    (ck (inB (0 : Int) (x.2.1.2.2.1.length)) <|
    Option.bind (relate_Flow (rdL t_api_Type x.2.1.2.2.1 (0 : Int), (x.2.1.2.2.2.1, ()), (7 : Int), (0 : Int), ())) fun y1 =>
    some y1)
    (cond (x.1.1 == (4 : Int))
      (Option.bind (lim term_needs_l14_step (x.2.1, ([] : List V_api_Type), x.1.2.2.2.2.1, (x.1.2.2.2.2.1.length : Int), (0 : Int), ())) fun y2 => out1 y2
        (fun z3 =>
          ck (inB x.1.2.1 (z3.2.1.2.2.2.2.1.length)) <|
          ck (inB x.1.2.2.1 (z3.2.1.2.2.1.length)) <|
          Option.bind (sig_Call (rdL t_api_Sig z3.2.1.2.2.2.2.1 x.1.2.1, x.1.2.2.2.2.2.1, z3.1, rdL t_api_Type z3.2.1.2.2.1 x.1.2.2.1, ())) fun y4 =>
          some y4))
      (some (([] : List V_api_Prov), (0 : Int), ())))
noncomputable def term_needs_c : Ctr := ⟨(.cons t_api_Term (.cons t_term_Around .nil)), (.cons (.lst t_api_Prov) (.cons (.int .i64) .nil)), term_needs, none⟩
theorem term_needs_ok : CtrOK Try.prog 73 term_needs_c := fun_E k61 Try.func73 k61s (by kernel_rfl) (fun x => by kernel_rfl)
/-! ### easement/term.Check: function 72 -/
noncomputable def k62 : FE Try.prog := ⟨[(113, term_form_c), (114, term_beyond_c), (144, term_beyond_1_c), (73, term_needs_c)], [(115, [slices_ContainsFunc_128_p0_c])], [], [], ⟨term_form_ok, term_beyond_ok, term_beyond_1_ok, term_needs_ok, trivial⟩, ⟨⟨slices_ContainsFunc_128_p0_ok, trivial⟩, trivial⟩, trivial⟩
noncomputable def term_Check_j37x_v (x : (V_api_Term × V_term_Around × Bool × Unit)) : Option ((Bool × V_api_Term × V_term_Around × Unit) ⊕ Empty) :=
  cond (x.2.2.1)
    (some (.inl (x.2.2.1, x.1, x.2.1, ())))
    (Option.bind (term_beyond (x.2.1.2.1, ())) fun y8 =>
    Option.bind (slices_ContainsFunc_128_p0 (x.1.2.2.2.2.2.1, y8, ())) fun y9 => out1 y9
      (fun z10 =>
        some (.inl (z10.1, x.1, x.2.1, ()))))
noncomputable def k62l1 : LCtr := ⟨[2, 3, 18], (.cons (.ptr q24) (.cons (.ptr q25) (.cons (.val .bool) .nil))), [], [2, 3, 6], [⟨.normal, [18, 2, 3], (.cons (.val .bool) (.cons (.ptr q24) (.cons (.ptr q25) .nil))), [some 0, some 1]⟩], fun _ => [], term_Check_j37x_v⟩
noncomputable def term_Check_j37_v (x : (V_api_Term × V_term_Around × ((Option (Int × Unit)) × Unit) × Bool × Unit)) : Option ((Bool × V_api_Term × V_term_Around × Unit) ⊕ Empty) :=
  cond (x.2.2.2.1)
    (some (.inl (x.2.2.2.1, x.1, x.2.1, ())))
    (Option.bind (slices_ContainsFunc_128_p0 (x.1.2.2.2.2.1, x.2.2.1, ())) fun y6 => out1 y6
      (fun z7 =>
        Option.bind (term_Check_j37x_v (x.1, x.2.1, z7)) fun y11 => out1 y11
          (fun z12 =>
            some (.inl z12))))
noncomputable def k62l2 : LCtr := ⟨[2, 3, 6, 18], (.cons (.ptr q24) (.cons (.ptr q25) (.cons (.clo 144 (.cons (.val (.ptr (.cons (.int .i64) .nil))) .nil)) (.cons (.val .bool) .nil)))), [], [2, 3, 6], [⟨.normal, [18, 2, 3], (.cons (.val .bool) (.cons (.ptr q24) (.cons (.ptr q25) .nil))), [some 0, some 1]⟩], fun _ => [], term_Check_j37_v⟩
theorem k62s : LsOK Try.prog Try.f72.ntmps (codeOf Try.f72) [(51539607589, k62l2), (60129542181, k62l1)] := join_E 51539607589 k62l2 k62 (join_E 60129542181 k62l1 k62 trivial (by kernel_rfl) (fun x => by kernel_rfl)) (by kernel_rfl) (fun x => by kernel_rfl)
noncomputable def term_Check (x : (V_api_Term × V_term_Around × Unit)) : Option (Int × Unit) :=
  Option.bind (term_form (x.1, ())) fun y1 =>
  cond (y1.1 != (0 : Int))
    (some y1)
    (Option.bind (term_beyond ((x.2.1.2.2.1.length : Int), ())) fun y2 =>
    Option.bind (term_beyond (x.2.1.1, ())) fun y3 =>
    Option.bind (slices_ContainsFunc_128_p0 (x.1.2.2.2.1, y3, ())) fun y4 => out1 y4
      (fun z5 =>
        Option.bind (term_Check_j37_v (x.1, x.2.1, y2, z5)) fun y13 => out1 y13
          (fun z14 =>
            cond (z14.1)
              (some ((7 : Int), ()))
              (cond (z14.2.1.1 == (4 : Int))
                (Option.bind (term_beyond_1 (z14.2.1.2.2.1, y2)) fun y15 =>
                cond (!y15.1)
                  (Option.bind (term_beyond ((z14.2.2.1.2.2.2.2.1.length : Int), ())) fun y16 =>
                  Option.bind (term_beyond_1 (z14.2.1.2.1, y16)) fun y17 =>
                  cond (y17.1)
                    (some ((7 : Int), ()))
                    (cond (cond (z14.2.1.1 == (3 : Int)) ((z14.2.2.1.2.2.1.length : Int) == (0 : Int)) false)
                      (some ((14 : Int), ()))
                      (Option.bind (term_needs z14.2) fun y18 =>
                      some y18.2)))
                  (some ((7 : Int), ())))
                (cond (cond (z14.2.1.1 == (3 : Int)) ((z14.2.2.1.2.2.1.length : Int) == (0 : Int)) false)
                  (some ((14 : Int), ()))
                  (Option.bind (term_needs z14.2) fun y19 =>
                  some y19.2))))))
noncomputable def term_Check_c : Ctr := ⟨(.cons t_api_Term (.cons t_term_Around .nil)), (.cons (.int .i64) .nil), term_Check, none⟩
theorem term_Check_ok : CtrOK Try.prog 72 term_Check_c := fun_E k62 Try.func72 k62s (by kernel_rfl) (fun x => by kernel_rfl)
/-! ### (*easement/valid.checker).blocks: function 112, at objects -/
noncomputable def k63 : FE Try.prog := ⟨[(140, valid_some_c), (139, valid_many_c), (75, stmt_Check_c), (72, term_Check_c)], [(138, [valid_checker_wrong_p0_c])], [], [], ⟨valid_some_ok, valid_many_ok, stmt_Check_ok, term_Check_ok, trivial⟩, ⟨⟨valid_checker_wrong_p0_ok, trivial⟩, trivial⟩, trivial⟩
noncomputable def valid_checker_blocks_p0_l8_step (g : T44 → Option T19) (x : T44) : Option T19 :=
  cond (decide (x.2.2.2.2.1 < x.2.2.2.1))
    (ck (inB x.2.2.2.2.1 (x.2.2.1.length)) <|
    let v1 := IntKind.i64.wrap (x.2.1 + ((rdL t_api_Block x.2.2.1 x.2.2.2.2.1).1.length : Int))
    Option.bind (valid_many (v1, ())) fun y4 =>
    Option.bind (valid_checker_wrong_p0 ((x.1.1, x.1.2.1, x.1.2.2.1, x.1.2.2.2.1, x.1.2.2.2.2.1, x.1.2.2.2.2.2.1, x.1.2.2.2.2.2.2.1, (), x.1.2.2.2.2.2.2.2.2), y4.1, (5 : Int), x.2.2.2.2.1, (0 : Int), ())) fun y5 => out1 y5
      (fun z6 =>
        g ((z6.1.1, z6.1.2.1, z6.1.2.2.1, z6.1.2.2.2.1, z6.1.2.2.2.2.1, z6.1.2.2.2.2.2.1, z6.1.2.2.2.2.2.2.1, (), z6.1.2.2.2.2.2.2.2.2), v1, x.2.2.1, x.2.2.2.1, IntKind.i64.wrap (x.2.2.2.2.1 + (1 : Int)), ())))
    (some (.inl ((x.1.1, x.1.2.1, x.1.2.2.1, x.1.2.2.2.1, x.1.2.2.2.2.1, x.1.2.2.2.2.2.1, x.1.2.2.2.2.2.2.1, (), x.1.2.2.2.2.2.2.2.2), ())))
noncomputable def k63l1 : LCtr := ⟨[0, 3, 22, 23, 24], (.cons (.ptr q31) (.cons (.val (.int .i64)) (.cons (.val (.lst t_api_Block)) (.cons (.val (.int .i64)) (.cons (.val (.int .i64)) .nil))))), [some 0], [0, 2], [⟨(.exit 0), [0], (.cons (.ptr q31) .nil), [some 0]⟩], fun _ => [], lim valid_checker_blocks_p0_l8_step⟩
noncomputable def valid_checker_blocks_p0_l28_step (g : T45 → Option T22) (x : T45) : Option T22 :=
  cond (decide (x.2.2.2.2.2.1 < x.2.2.2.2.1))
    (ck (inB x.2.2.2.2.2.1 (x.2.2.2.1.length)) <|
    Option.bind (stmt_Check (rdL t_api_Prov x.2.2.2.1 x.2.2.2.2.2.1, x.2.1.2.2.2.1, x.2.1.2.1, ())) fun y9 =>
    Option.bind (valid_checker_wrong_p0 ((x.1.1, x.1.2.1, x.1.2.2.1, x.1.2.2.2.1, x.1.2.2.2.2.1, x.1.2.2.2.2.2.1, x.1.2.2.2.2.2.2.1, (), x.1.2.2.2.2.2.2.2.2), y9.1, (6 : Int), x.2.2.1, x.2.2.2.2.2)) fun y10 => out1 y10
      (fun z11 =>
        g ((z11.1.1, z11.1.2.1, z11.1.2.2.1, z11.1.2.2.2.1, z11.1.2.2.2.2.1, z11.1.2.2.2.2.2.1, z11.1.2.2.2.2.2.2.1, (), z11.1.2.2.2.2.2.2.2.2), x.2.1, x.2.2.1, x.2.2.2.1, x.2.2.2.2.1, IntKind.i64.wrap (x.2.2.2.2.2.1 + (1 : Int)), ())))
    (some (.inl ((x.1.1, x.1.2.1, x.1.2.2.1, x.1.2.2.2.1, x.1.2.2.2.2.1, x.1.2.2.2.2.2.1, x.1.2.2.2.2.2.2.1, (), x.1.2.2.2.2.2.2.2.2), x.2.1, ())))
noncomputable def k63l2 : LCtr := ⟨[0, 2, 7, 61, 62, 63], (.cons (.ptr q31) (.cons (.ptr q2) (.cons (.val (.int .i64)) (.cons (.val (.lst t_api_Prov)) (.cons (.val (.int .i64)) (.cons (.val (.int .i64)) .nil)))))), [some 0, some 1], [0, 2, 6, 7, 8, 53, 54, 55], [⟨(.exit 4), [0, 2], (.cons (.ptr q31) (.cons (.ptr q2) .nil)), [some 0, some 1]⟩], fun _ => [], lim valid_checker_blocks_p0_l28_step⟩
noncomputable def valid_checker_blocks_p0_l22_step (g : T46 → Option T47) (x : T46) : Option T47 :=
  cond (decide (x.2.2.2.2.2.1 < x.2.2.2.2.1))
    (ck (inB x.2.2.2.2.2.1 (x.2.2.2.1.length)) <|
    let v1 := rdL t_api_Block x.2.2.2.1 x.2.2.2.2.2.1
    Option.bind (lim valid_checker_blocks_p0_l28_step ((x.1.1, x.1.2.1, x.1.2.2.1, x.1.2.2.2.1, x.1.2.2.2.2.1, x.1.2.2.2.2.2.1, x.1.2.2.2.2.2.2.1, (), x.1.2.2.2.2.2.2.2.2), x.2.1, x.2.2.2.2.2.1, v1.1, (v1.1.length : Int), (0 : Int), ())) fun y12 => out1 y12
      (fun z13 =>
        Option.bind (term_Check (v1.2, x.2.2.1, ())) fun y14 =>
        Option.bind (valid_checker_wrong_p0 ((z13.1.1, z13.1.2.1, z13.1.2.2.1, z13.1.2.2.2.1, z13.1.2.2.2.2.1, z13.1.2.2.2.2.2.1, z13.1.2.2.2.2.2.2.1, (), z13.1.2.2.2.2.2.2.2.2), y14.1, (7 : Int), x.2.2.2.2.2.1, (0 : Int), ())) fun y15 => out1 y15
          (fun z16 =>
            g ((z16.1.1, z16.1.2.1, z16.1.2.2.1, z16.1.2.2.2.1, z16.1.2.2.2.2.1, z16.1.2.2.2.2.2.1, z16.1.2.2.2.2.2.2.1, (), z16.1.2.2.2.2.2.2.2.2), z13.2.1, x.2.2.1, x.2.2.2.1, x.2.2.2.2.1, IntKind.i64.wrap (x.2.2.2.2.2.1 + (1 : Int)), ()))))
    (some (.inl ((x.1.1, x.1.2.1, x.1.2.2.1, x.1.2.2.2.1, x.1.2.2.2.2.1, x.1.2.2.2.2.2.1, x.1.2.2.2.2.2.2.1, (), x.1.2.2.2.2.2.2.2.2), x.2.1, x.2.2.1, ())))
noncomputable def k63l3 : LCtr := ⟨[0, 2, 6, 53, 54, 55], (.cons (.ptr q31) (.cons (.ptr q2) (.cons (.ptr q25) (.cons (.val (.lst t_api_Block)) (.cons (.val (.int .i64)) (.cons (.val (.int .i64)) .nil)))))), [some 0, some 1, some 2], [0], [⟨(.exit 2), [0, 2, 6], (.cons (.ptr q31) (.cons (.ptr q2) (.cons (.ptr q25) .nil))), [some 0, some 1, some 2]⟩], fun _ => [], lim valid_checker_blocks_p0_l22_step⟩
theorem k63s : LsOK Try.prog Try.f112.ntmps (codeOf Try.f112) [(22, k63l3), (28, k63l2), (8, k63l1)] := loop_E 22 k63l3 k63 (loop_E 28 k63l2 k63 (loop_E 8 k63l1 k63 trivial (by kernel_rfl) rfl (fun g x => by kernel_rfl)) (by kernel_rfl) rfl (fun g x => by kernel_rfl)) (by kernel_rfl) rfl (fun g x => by kernel_rfl)
noncomputable def valid_checker_blocks_p0 (x : T25) : Option T19 :=
  Option.bind (valid_some ((x.1.2.2.2.2.2.2.1.length : Int), ())) fun y1 =>
  Option.bind (valid_checker_wrong_p0 ((x.1.1, x.1.2.1, x.1.2.2.1, x.1.2.2.2.1, x.1.2.2.2.2.1, x.1.2.2.2.2.2.1, x.1.2.2.2.2.2.2.1, (), x.1.2.2.2.2.2.2.2.2), y1.1, (5 : Int), (0 : Int), (0 : Int), ())) fun y2 => out1 y2
    (fun z3 =>
      Option.bind (lim valid_checker_blocks_p0_l8_step ((z3.1.1, z3.1.2.1, z3.1.2.2.1, z3.1.2.2.2.1, z3.1.2.2.2.2.1, z3.1.2.2.2.2.2.1, z3.1.2.2.2.2.2.2.1, (), z3.1.2.2.2.2.2.2.2.2), (0 : Int), x.1.2.2.2.2.2.2.1, (x.1.2.2.2.2.2.2.1.length : Int), (0 : Int), ())) fun y7 => out1 y7
        (fun z8 =>
          Option.bind (lim valid_checker_blocks_p0_l22_step ((z8.1.1, z8.1.2.1, z8.1.2.2.1, z8.1.2.2.2.1, z8.1.2.2.2.2.1, z8.1.2.2.2.2.2.1, z8.1.2.2.2.2.2.2.1, (), z8.1.2.2.2.2.2.2.2.2), (x.1.1, x.1.2.1, x.1.2.2.1, x.1.2.2.2.1, x.1.2.2.2.2.1, x.1.2.2.2.2.2.1, x.1.2.2.2.2.2.2.1, ()), ((x.1.2.2.2.2.2.2.1.length : Int), x.1.2.1, x.1.2.2.2.1, x.1.2.2.2.2.1, x.1.2.2.2.2.2.1, ()), x.1.2.2.2.2.2.2.1, (x.1.2.2.2.2.2.2.1.length : Int), (0 : Int), ())) fun y17 => out1 y17
            (fun z18 =>
              some (.inl ((z18.1.1, z18.1.2.1, z18.1.2.2.1, z18.1.2.2.2.1, z18.1.2.2.2.2.1, z18.1.2.2.2.2.2.1, z18.1.2.2.2.2.2.2.1, (), z18.1.2.2.2.2.2.2.2.2), ())))))
noncomputable def k63L : LCtr := ⟨[0], (.cons (.ptr q31) .nil), [], [], [⟨.normal, [0], (.cons (.ptr q31) .nil), [some 0]⟩], fun _ => [], valid_checker_blocks_p0⟩
noncomputable def valid_checker_blocks_p0_c : PI := mkPI Try.f112 k63L
theorem valid_checker_blocks_p0_ok : PIOK Try.prog 112 valid_checker_blocks_p0_c := proc_E k63 Try.func112 k63s (by kernel_rfl) (fun x => by kernel_rfl)
/-! ### easement/valid.Check: function 71, at objects -/
noncomputable def k64 : FE Try.prog := ⟨[], [(110, [valid_checker_head_p0_c]), (111, [valid_checker_types_p0_c]), (112, [valid_checker_blocks_p0_c])], [], [], trivial, ⟨⟨valid_checker_head_p0_ok, trivial⟩, ⟨valid_checker_types_p0_ok, trivial⟩, ⟨valid_checker_blocks_p0_ok, trivial⟩, trivial⟩, trivial⟩
noncomputable def valid_Check_p0 (x : (V_api_Body × Unit × Unit)) : Option ((V_valid_Fault × Unit) ⊕ Empty) :=
  Option.bind (valid_checker_head_p0 ((x.1.1, x.1.2.1, x.1.2.2.1, x.1.2.2.2.1, x.1.2.2.2.2.1, x.1.2.2.2.2.2.1, x.1.2.2.2.2.2.2.1, (), (0 : Int), (0 : Int), (0 : Int), (0 : Int), ()), ())) fun y1 => out1 y1
    (fun z2 =>
      Option.bind (valid_checker_types_p0 ((z2.1.1, z2.1.2.1, z2.1.2.2.1, z2.1.2.2.2.1, z2.1.2.2.2.2.1, z2.1.2.2.2.2.2.1, z2.1.2.2.2.2.2.2.1, (), z2.1.2.2.2.2.2.2.2.2), ())) fun y3 => out1 y3
        (fun z4 =>
          Option.bind (valid_checker_blocks_p0 ((z4.1.1, z4.1.2.1, z4.1.2.2.1, z4.1.2.2.2.1, z4.1.2.2.2.2.1, z4.1.2.2.2.2.2.1, z4.1.2.2.2.2.2.2.1, (), z4.1.2.2.2.2.2.2.2.2), ())) fun y5 => out1 y5
            (fun z6 =>
              some (.inl (z6.1.2.2.2.2.2.2.2.2, ())))))
noncomputable def k64L : LCtr := ⟨[0, 1], (.cons (.val t_api_Body) (.cons (.cst true) .nil)), [], [], [⟨.ret, [4], (.cons (.ptr q4) .nil), [none]⟩], fun _ => [], valid_Check_p0⟩
noncomputable def valid_Check_p0_c : PI := mkPI Try.f71 k64L
theorem valid_Check_p0_ok : PIOK Try.prog 71 valid_Check_p0_c := proc_E (ls := []) k64 Try.func71 trivial (by kernel_rfl) (fun x => by kernel_rfl)
/-! ### easement/valid.OK: function 47 -/
noncomputable def k65 : FE Try.prog := ⟨[], [(71, [valid_Check_p0_c])], [], [], trivial, ⟨⟨valid_Check_p0_ok, trivial⟩, trivial⟩, trivial⟩
noncomputable def valid_OK (x : (V_api_Body × Unit)) : Option (Bool × Unit) :=
  Option.bind (valid_Check_p0 (x.1, (), ())) fun y1 => out1 y1
    (fun z2 =>
      some (z2.1.1 == (0 : Int), ()))
noncomputable def valid_OK_c : Ctr := ⟨(.cons t_api_Body .nil), (.cons .bool .nil), valid_OK, none⟩
theorem valid_OK_ok : CtrOK Try.prog 47 valid_OK_c := fun_E (ls := []) k65 Try.func47 trivial (by kernel_rfl) (fun x => by kernel_rfl)
/-! ### easement/point.New: function 26 -/
noncomputable def k66 : FE Try.prog := ⟨[(47, valid_OK_c)], [], [], [], ⟨valid_OK_ok, trivial⟩, trivial, trivial⟩
noncomputable def point_New_l10_step (g : (V_point_Points × (List V_api_Block) × Int × Int × Unit) → Option ((V_point_Points × Unit) ⊕ Empty)) (x : (V_point_Points × (List V_api_Block) × Int × Int × Unit)) : Option ((V_point_Points × Unit) ⊕ Empty) :=
  cond (decide (x.2.2.2.1 < x.2.2.1))
    (ck (inB x.2.2.2.1 (x.2.1.length)) <|
    let v1 := IntKind.i64.wrap ((x.1.1.length : Int) - (1 : Int))
    ck (inB v1 (x.1.1.length)) <|
    let v2 := x.1.1 ++ [IntKind.i64.wrap ((IntKind.i64.wrap ((x.1.1.getD v1.toNat (Ty.dflt (.int .i64))) + ((rdL t_api_Block x.2.1 x.2.2.2.1).1.length : Int))) + (1 : Int))]
    ck (roomB v2.length 10) <|
    g ((v2, ()), x.2.1, x.2.2.1, IntKind.i64.wrap (x.2.2.2.1 + (1 : Int)), ()))
    (some (.inl (x.1, ())))
noncomputable def k66l1 : LCtr := ⟨[3, 14, 15, 16], (.cons (.ptr (.cons (.own (.int .i64)) .nil)) (.cons (.val (.lst t_api_Block)) (.cons (.val (.int .i64)) (.cons (.val (.int .i64)) .nil)))), [some 0, none], [3], [⟨(.exit 0), [3], (.cons (.ptr (.cons (.own (.int .i64)) .nil)) .nil), [some 0, none]⟩], fun _ => [], lim point_New_l10_step⟩
theorem k66s : LsOK Try.prog Try.f26.ntmps (codeOf Try.f26) [(10, k66l1)] := loop_E 10 k66l1 k66 trivial (by kernel_rfl) rfl (fun g x => by kernel_rfl)
noncomputable def point_New (x : (V_api_Body × Unit)) : Option ((Option V_point_Points) × Unit) :=
  Option.bind (valid_OK x) fun y1 =>
  cond (!y1.1)
    (some (some ([(0 : Int)], ()), ()))
    (Option.bind (lim point_New_l10_step (([(0 : Int)], ()), x.1.2.2.2.2.2.2.1, (x.1.2.2.2.2.2.2.1.length : Int), (0 : Int), ())) fun y2 => out1 y2
      (fun z3 =>
        some (some z3.1, ())))
noncomputable def point_New_c : Ctr := ⟨(.cons t_api_Body .nil), (.cons (.ptr (.cons (.lst (.int .i64)) .nil)) .nil), point_New, none⟩
theorem point_New_ok : CtrOK Try.prog 26 point_New_c := fun_E k66 Try.func26 k66s (by kernel_rfl) (fun x => by kernel_rfl)
/-! ### (*easement/point.Points).Len: function 27 -/
noncomputable def point_Points_Len (x : ((Option V_point_Points) × Unit)) : Option (Int × Unit) :=
  cond (x.1.isNone)
    (some ((0 : Int), ()))
    (ck (x.1.isSome) <|
    ck (x.1.isSome) <|
    let v1 := IntKind.i64.wrap (((x.1.getD (Ty.dflt (.cons (.lst (.int .i64)) .nil))).1.length : Int) - (1 : Int))
    let v2 := (x.1.getD (Ty.dflt (.cons (.lst (.int .i64)) .nil))).1
    ck (inB v1 (v2.length)) <|
    some (rdL (.int .i64) v2 v1, ()))
noncomputable def point_Points_Len_c : Ctr := ⟨(.cons (.ptr (.cons (.lst (.int .i64)) .nil)) .nil), (.cons (.int .i64) .nil), point_Points_Len, none⟩
theorem point_Points_Len_ok : CtrOK Try.prog 27 point_Points_Len_c := fun_E (ls := []) k0 Try.func27 trivial (by kernel_rfl) (fun x => by kernel_rfl)
/-! ### (*easement/point.Points).Blocks: function 49 -/
noncomputable def point_Points_Blocks (x : ((Option V_point_Points) × Unit)) : Option (Int × Unit) :=
  cond (x.1.isNone)
    (some ((0 : Int), ()))
    (ck (x.1.isSome) <|
    some (IntKind.i64.wrap (((x.1.getD (Ty.dflt (.cons (.lst (.int .i64)) .nil))).1.length : Int) - (1 : Int)), ()))
noncomputable def point_Points_Blocks_c : Ctr := ⟨(.cons (.ptr (.cons (.lst (.int .i64)) .nil)) .nil), (.cons (.int .i64) .nil), point_Points_Blocks, none⟩
theorem point_Points_Blocks_ok : CtrOK Try.prog 49 point_Points_Blocks_c := fun_E (ls := []) k0 Try.func49 trivial (by kernel_rfl) (fun x => by kernel_rfl)
/-! ### (*easement/point.Points).At$1: function 50, at objects -/
noncomputable def point_Points_At_1_p0 (x : (Int × ((Option V_point_Points) × Unit) × (Int × Unit) × Unit)) : Option ((Bool × ((Option V_point_Points) × Unit) × (Int × Unit) × Unit) ⊕ Empty) :=
  ck (x.2.1.1.isSome) <|
  let v1 := IntKind.i64.wrap (x.1 + (1 : Int))
  let v2 := (x.2.1.1.getD (Ty.dflt (.cons (.lst (.int .i64)) .nil))).1
  ck (inB v1 (v2.length)) <|
  some (.inl (decide ((rdL (.int .i64) v2 v1) > x.2.2.1.1), x.2))
noncomputable def k69L : LCtr := ⟨[0, 1, 2], (.cons (.val (.int .i64)) (.cons (.ptr (.cons (.val (.ptr (.cons (.lst (.int .i64)) .nil))) .nil)) (.cons (.ptr (.cons (.val (.int .i64)) .nil)) .nil))), [], [], [⟨.ret, [4, 1, 2], (.cons (.val .bool) (.cons (.ptr (.cons (.val (.ptr (.cons (.lst (.int .i64)) .nil))) .nil)) (.cons (.ptr (.cons (.val (.int .i64)) .nil)) .nil))), [some 0, some 1]⟩], fun _ => [], point_Points_At_1_p0⟩
noncomputable def point_Points_At_1_p0_c : PI := mkPI Try.f50 k69L
theorem point_Points_At_1_p0_ok : PIOK Try.prog 50 point_Points_At_1_p0_c := proc_E (ls := []) k0 Try.func50 trivial (by kernel_rfl) (fun x => by kernel_rfl)
/-! ### sort.Search: function 48, at objects -/
noncomputable def k70 : FE Try.prog := ⟨[], [(50, [point_Points_At_1_p0_c])], [], [], trivial, ⟨⟨point_Points_At_1_p0_ok, trivial⟩, trivial⟩, trivial⟩
noncomputable def sort_Search_p0_j43_v (x : (Int × Int × Int × Bool × Unit)) : Option (V_easementref08_Pair ⊕ Empty) :=
  cond (x.2.2.2.1)
    (some (.inl (IntKind.i64.wrap (x.2.2.1 + (1 : Int)), x.2.1, ())))
    (some (.inl (x.1, x.2.2.1, ())))
noncomputable def k70l1 : LCtr := ⟨[5, 6, 7, 21], (.cons (.val (.int .i64)) (.cons (.val (.int .i64)) (.cons (.val (.int .i64)) (.cons (.val .bool) .nil)))), [], [1], [⟨.normal, [5, 6], (.cons (.val (.int .i64)) (.cons (.val (.int .i64)) .nil)), []⟩], fun _ => [], sort_Search_p0_j43_v⟩
noncomputable def sort_Search_p0_l4_step (g : T50 → Option T51) (x : T50) : Option T51 :=
  cond (decide (x.2.1 < x.2.2.1))
    (ck (decide (0 ≤ (1 : Int))) <|
    let v1 := IntKind.i64.wrap (shrOf .u64 (IntKind.u64.wrap (IntKind.i64.wrap (x.2.1 + x.2.2.1))) (1 : Int))
    Option.bind (point_Points_At_1_p0 (v1, x.1)) fun y1 => out1 y1
      (fun z2 =>
        Option.bind (sort_Search_p0_j43_v (x.2.1, x.2.2.1, v1, !z2.1, ())) fun y3 => out1 y3
          (fun z4 =>
            g (z2.2, z4))))
    (some (.inl (x.2.1, x.1, ())))
noncomputable def k70l2 : LCtr := ⟨[1, 5, 6], (.cons (.clo 50 q74) (.cons (.val (.int .i64)) (.cons (.val (.int .i64)) .nil))), [some 0, some 1], [0, 1], [⟨(.exit 0), [5, 1], (.cons (.val (.int .i64)) (.cons (.clo 50 q74) .nil)), [some 0, some 1]⟩], fun _ => [], lim sort_Search_p0_l4_step⟩
theorem k70s : LsOK Try.prog Try.f48.ntmps (codeOf Try.f48) [(4, k70l2), (51540262955, k70l1)] := loop_E 4 k70l2 k70 (join_E 51540262955 k70l1 k70 trivial (by kernel_rfl) (fun x => by kernel_rfl)) (by kernel_rfl) rfl (fun g x => by kernel_rfl)
noncomputable def sort_Search_p0 (x : (Int × (((Option V_point_Points) × Unit) × (Int × Unit) × Unit) × Unit)) : Option T51 :=
  Option.bind (lim sort_Search_p0_l4_step (x.2.1, (0 : Int), x.1, ())) fun y5 => out1 y5
    (fun z6 =>
      some (.inl z6))
noncomputable def k70L : LCtr := ⟨[0, 1], (.cons (.val (.int .i64)) (.cons (.clo 50 q74) .nil)), [], [], [⟨.ret, [4, 1], (.cons (.val (.int .i64)) (.cons (.clo 50 q74) .nil)), [some 0, some 1]⟩], fun _ => [], sort_Search_p0⟩
noncomputable def sort_Search_p0_c : PI := mkPI Try.f48 k70L
theorem sort_Search_p0_ok : PIOK Try.prog 48 sort_Search_p0_c := proc_E k70 Try.func48 k70s (by kernel_rfl) (fun x => by kernel_rfl)
/-! ### (*easement/point.Points).At: function 28 -/
noncomputable def k71 : FE Try.prog := ⟨[(27, point_Points_Len_c), (49, point_Points_Blocks_c)], [(48, [sort_Search_p0_c])], [], [], ⟨point_Points_Len_ok, point_Points_Blocks_ok, trivial⟩, ⟨⟨sort_Search_p0_ok, trivial⟩, trivial⟩, trivial⟩
noncomputable def point_Points_At (x : ((Option V_point_Points) × Int × Unit)) : Option (Int × Int × Bool × Unit) :=
  cond (!(decide (x.2.1 < (0 : Int))))
    (Option.bind (point_Points_Len (x.1, ())) fun y1 =>
    cond (decide (x.2.1 ≥ y1.1))
      (some ((0 : Int), (0 : Int), false, ()))
      (Option.bind (point_Points_Blocks (x.1, ())) fun y2 =>
      Option.bind (sort_Search_p0 (y2.1, ((x.1, ()), x.2, ()), ())) fun y3 => out1 y3
        (fun z4 =>
          ck (z4.2.1.1.1.isSome) <|
          let v1 := (z4.2.1.1.1.getD (Ty.dflt (.cons (.lst (.int .i64)) .nil))).1
          ck (inB z4.1 (v1.length)) <|
          some (z4.1, IntKind.i64.wrap (z4.2.1.2.1.1 - (rdL (.int .i64) v1 z4.1)), true, ()))))
    (some ((0 : Int), (0 : Int), false, ()))
noncomputable def point_Points_At_c : Ctr := ⟨(.cons (.ptr (.cons (.lst (.int .i64)) .nil)) (.cons (.int .i64) .nil)), (.cons (.int .i64) (.cons (.int .i64) (.cons .bool .nil))), point_Points_At, none⟩
theorem point_Points_At_ok : CtrOK Try.prog 28 point_Points_At_c := fun_E (ls := []) k71 Try.func28 trivial (by kernel_rfl) (fun x => by kernel_rfl)
/-! ### easement/term.Needs: function 51 -/
noncomputable def k72 : FE Try.prog := ⟨[(72, term_Check_c), (73, term_needs_c)], [], [], [], ⟨term_Check_ok, term_needs_ok, trivial⟩, trivial, trivial⟩
noncomputable def term_Needs (x : (V_api_Term × V_term_Around × Unit)) : Option ((List V_api_Prov) × Int × Unit) :=
  Option.bind (term_Check x) fun y1 =>
  cond (y1.1 != (0 : Int))
    (some (([] : List V_api_Prov), y1))
    (Option.bind (term_needs x) fun y2 =>
    some y2)
noncomputable def term_Needs_c : Ctr := ⟨(.cons t_api_Term (.cons t_term_Around .nil)), (.cons (.lst t_api_Prov) (.cons (.int .i64) .nil)), term_Needs, none⟩
theorem term_Needs_ok : CtrOK Try.prog 51 term_Needs_c := fun_E (ls := []) k72 Try.func51 trivial (by kernel_rfl) (fun x => by kernel_rfl)
/-! ### easement/cons.of: function 25, at objects -/
noncomputable def cons_of_p1 (x : (V_api_Body × Unit × Unit)) : Option T53 :=
  some (.inl ((x.1.1, x.1.2.1, x.1.2.2.1, x.1.2.2.2.1, x.1.2.2.2.2.1, x.1.2.2.2.2.2.1, x.1.2.2.2.2.2.2.1, (x.1.2.2.2.2.2.2.1.length : Int), x.1.2.1, x.1.2.2.2.1, x.1.2.2.2.2.1, x.1.2.2.2.2.2.1, ([] : List V_api_Edge), (), ()), ()))
noncomputable def k74L : LCtr := ⟨[0, 1], (.cons (.val t_api_Body) (.cons (.cst true) .nil)), [], [], [⟨.ret, [4], (.cons (.ptr q78) .nil), [none, none]⟩], fun _ => [], cons_of_p1⟩
noncomputable def cons_of_p1_c : PI := mkPI Try.f25 k74L
theorem cons_of_p1_ok : PIOK Try.prog 25 cons_of_p1_c := proc_E (ls := []) k0 Try.func25 trivial (by kernel_rfl) (fun x => by kernel_rfl)
/-! ### (*easement/cons.maker).put: function 52, at objects -/
noncomputable def k75 : FE Try.prog := ⟨[], [(74, [tick_Counter_Add_p0_c])], [], [], trivial, ⟨⟨tick_Counter_Add_p0_ok, trivial⟩, trivial⟩, trivial⟩
noncomputable def cons_maker_put_p0_l4_step (g : T54 → Option T53) (x : T54) : Option T53 :=
  cond (decide (x.2.2.2.2.2.1 < x.2.2.2.2.1))
    (ck (inB x.2.2.2.2.2.1 (x.2.2.2.1.length)) <|
    let v1 := rdL t_api_Prov x.2.2.2.1 x.2.2.2.2.2.1
    let v2 := x.1.2.2.2.2.2.2.2.2.2.2.2.2.1 ++ [(v1.1, v1.2.1, x.2.1, x.2.2.1, v1.2.2)]
    ck (roomB v2.length 64) <|
    g ((x.1.1, x.1.2.1, x.1.2.2.1, x.1.2.2.2.1, x.1.2.2.2.2.1, x.1.2.2.2.2.2.1, x.1.2.2.2.2.2.2.1, x.1.2.2.2.2.2.2.2.1, x.1.2.2.2.2.2.2.2.2.1, x.1.2.2.2.2.2.2.2.2.2.1, x.1.2.2.2.2.2.2.2.2.2.2.1, x.1.2.2.2.2.2.2.2.2.2.2.2.1, v2, (), ()), x.2.1, x.2.2.1, x.2.2.2.1, x.2.2.2.2.1, IntKind.i64.wrap (x.2.2.2.2.2.1 + (1 : Int)), ()))
    (some (.inl ((x.1.1, x.1.2.1, x.1.2.2.1, x.1.2.2.2.1, x.1.2.2.2.2.1, x.1.2.2.2.2.2.1, x.1.2.2.2.2.2.2.1, x.1.2.2.2.2.2.2.2.1, x.1.2.2.2.2.2.2.2.2.1, x.1.2.2.2.2.2.2.2.2.2.1, x.1.2.2.2.2.2.2.2.2.2.2.1, x.1.2.2.2.2.2.2.2.2.2.2.2.1, x.1.2.2.2.2.2.2.2.2.2.2.2.2.1, (), ()), ())))
noncomputable def k75l1 : LCtr := ⟨[0, 2, 3, 18, 19, 20], (.cons (.ptr q78) (.cons (.val (.int .i64)) (.cons (.val (.int .i64)) (.cons (.val (.lst t_api_Prov)) (.cons (.val (.int .i64)) (.cons (.val (.int .i64)) .nil)))))), [some 0, none], [0, 1, 2, 3], [⟨(.exit 0), [0], (.cons (.ptr q78) .nil), [some 0, none]⟩], fun _ => [], lim cons_maker_put_p0_l4_step⟩
theorem k75s : LsOK Try.prog Try.f52.ntmps (codeOf Try.f52) [(4, k75l1)] := loop_E 4 k75l1 k75 trivial (by kernel_rfl) rfl (fun g x => by kernel_rfl)
noncomputable def cons_maker_put_p0 (x : ((Int × Int × (List V_easementref08_Pair) × (List V_api_Type) × (List V_api_Slot) × (List V_api_Sig) × (List V_api_Block) × Int × Int × (List V_api_Type) × (List V_api_Slot) × (List V_api_Sig) × (List V_api_Edge) × Unit × Unit) × (List V_api_Prov) × Int × Int × Unit)) : Option T53 :=
  Option.bind (tick_Counter_Add_p0 ((), (3 : Int), IntKind.i64.wrap ((1 : Int) + (x.2.1.length : Int)), ())) fun y1 => out1 y1
    (fun z2 =>
      Option.bind (lim cons_maker_put_p0_l4_step ((x.1.1, x.1.2.1, x.1.2.2.1, x.1.2.2.2.1, x.1.2.2.2.2.1, x.1.2.2.2.2.2.1, x.1.2.2.2.2.2.2.1, x.1.2.2.2.2.2.2.2.1, x.1.2.2.2.2.2.2.2.2.1, x.1.2.2.2.2.2.2.2.2.2.1, x.1.2.2.2.2.2.2.2.2.2.2.1, x.1.2.2.2.2.2.2.2.2.2.2.2.1, x.1.2.2.2.2.2.2.2.2.2.2.2.2.1, (), ()), x.2.2.1, x.2.2.2.1, x.2.1, (x.2.1.length : Int), (0 : Int), ())) fun y3 => out1 y3
        (fun z4 =>
          some (.inl ((z4.1.1, z4.1.2.1, z4.1.2.2.1, z4.1.2.2.2.1, z4.1.2.2.2.2.1, z4.1.2.2.2.2.2.1, z4.1.2.2.2.2.2.2.1, z4.1.2.2.2.2.2.2.2.1, z4.1.2.2.2.2.2.2.2.2.1, z4.1.2.2.2.2.2.2.2.2.2.1, z4.1.2.2.2.2.2.2.2.2.2.2.1, z4.1.2.2.2.2.2.2.2.2.2.2.2.1, z4.1.2.2.2.2.2.2.2.2.2.2.2.2.1, (), ()), ()))))
noncomputable def k75L : LCtr := ⟨[0, 1, 2, 3], (.cons (.ptr q78) (.cons (.val (.lst t_api_Prov)) (.cons (.val (.int .i64)) (.cons (.val (.int .i64)) .nil)))), [], [], [⟨.normal, [0], (.cons (.ptr q78) .nil), [some 0, none]⟩], fun _ => [], cons_maker_put_p0⟩
noncomputable def cons_maker_put_p0_c : PI := mkPI Try.f52 k75L
theorem cons_maker_put_p0_ok : PIOK Try.prog 52 cons_maker_put_p0_c := proc_E k75 Try.func52 k75s (by kernel_rfl) (fun x => by kernel_rfl)
/-! ### easement/stmt.Needs: function 53 -/
noncomputable def k76 : FE Try.prog := ⟨[(75, stmt_Check_c), (76, stmt_needs_c)], [], [], [], ⟨stmt_Check_ok, stmt_needs_ok, trivial⟩, trivial, trivial⟩
noncomputable def stmt_Needs (x : (V_api_Prov × (List V_api_Type) × Int × Unit)) : Option ((List V_api_Prov) × Int × Unit) :=
  Option.bind (stmt_Check x) fun y1 =>
  cond (y1.1 != (0 : Int))
    (some (([] : List V_api_Prov), y1))
    (Option.bind (stmt_needs (x.1, x.2.1, ())) fun y2 =>
    some y2)
noncomputable def stmt_Needs_c : Ctr := ⟨(.cons t_api_Prov (.cons (.lst t_api_Type) (.cons (.int .i64) .nil))), (.cons (.lst t_api_Prov) (.cons (.int .i64) .nil)), stmt_Needs, none⟩
theorem stmt_Needs_ok : CtrOK Try.prog 53 stmt_Needs_c := fun_E (ls := []) k76 Try.func53 trivial (by kernel_rfl) (fun x => by kernel_rfl)
/-! ### (*easement/cons.maker).at: function 29, at objects -/
noncomputable def k77 : FE Try.prog := ⟨[(51, term_Needs_c), (53, stmt_Needs_c)], [(52, [cons_maker_put_p0_c])], [], [], ⟨term_Needs_ok, stmt_Needs_ok, trivial⟩, ⟨⟨cons_maker_put_p0_ok, trivial⟩, trivial⟩, trivial⟩
noncomputable def cons_maker_at_p0 (x : ((Int × Int × (List V_easementref08_Pair) × (List V_api_Type) × (List V_api_Slot) × (List V_api_Sig) × (List V_api_Block) × Int × Int × (List V_api_Type) × (List V_api_Slot) × (List V_api_Sig) × (List V_api_Edge) × Unit × Unit) × Int × Int × Unit)) : Option (((Int × Int × (List V_easementref08_Pair) × (List V_api_Type) × (List V_api_Slot) × (List V_api_Sig) × (List V_api_Block) × Int × Int × (List V_api_Type) × (List V_api_Slot) × (List V_api_Sig) × (List V_api_Edge) × Unit × Unit) × Unit) ⊕ (((Int × Int × (List V_easementref08_Pair) × (List V_api_Type) × (List V_api_Slot) × (List V_api_Sig) × (List V_api_Block) × Int × Int × (List V_api_Type) × (List V_api_Slot) × (List V_api_Sig) × (List V_api_Edge) × Unit × Unit) × Unit) ⊕ Empty)) :=
  ck (inB x.2.1 (x.1.2.2.2.2.2.2.1.length)) <|
  let v1 := rdL t_api_Block x.1.2.2.2.2.2.2.1 x.2.1
  cond (x.2.2.1 == (v1.1.length : Int))
    (Option.bind (term_Needs (v1.2, (x.1.2.2.2.2.2.2.2.1, x.1.2.2.2.2.2.2.2.2.1, x.1.2.2.2.2.2.2.2.2.2.1, x.1.2.2.2.2.2.2.2.2.2.2.1, x.1.2.2.2.2.2.2.2.2.2.2.2.1, ()), ())) fun y1 =>
    Option.bind (cons_maker_put_p0 ((x.1.1, x.1.2.1, x.1.2.2.1, x.1.2.2.2.1, x.1.2.2.2.2.1, x.1.2.2.2.2.2.1, x.1.2.2.2.2.2.2.1, x.1.2.2.2.2.2.2.2.1, x.1.2.2.2.2.2.2.2.2.1, x.1.2.2.2.2.2.2.2.2.2.1, x.1.2.2.2.2.2.2.2.2.2.2.1, x.1.2.2.2.2.2.2.2.2.2.2.2.1, x.1.2.2.2.2.2.2.2.2.2.2.2.2.1, (), ()), y1.1, x.2)) fun y2 => out1 y2
      (fun z3 =>
        some (.inl ((z3.1.1, z3.1.2.1, z3.1.2.2.1, z3.1.2.2.2.1, z3.1.2.2.2.2.1, z3.1.2.2.2.2.2.1, z3.1.2.2.2.2.2.2.1, z3.1.2.2.2.2.2.2.2.1, z3.1.2.2.2.2.2.2.2.2.1, z3.1.2.2.2.2.2.2.2.2.2.1, z3.1.2.2.2.2.2.2.2.2.2.2.1, z3.1.2.2.2.2.2.2.2.2.2.2.2.1, z3.1.2.2.2.2.2.2.2.2.2.2.2.2.1, (), ()), ()))))
    (ck (inB x.2.2.1 (v1.1.length)) <|
    Option.bind (stmt_Needs (rdL t_api_Prov v1.1 x.2.2.1, x.1.2.2.2.1, x.1.2.1, ())) fun y4 =>
    Option.bind (cons_maker_put_p0 ((x.1.1, x.1.2.1, x.1.2.2.1, x.1.2.2.2.1, x.1.2.2.2.2.1, x.1.2.2.2.2.2.1, x.1.2.2.2.2.2.2.1, x.1.2.2.2.2.2.2.2.1, x.1.2.2.2.2.2.2.2.2.1, x.1.2.2.2.2.2.2.2.2.2.1, x.1.2.2.2.2.2.2.2.2.2.2.1, x.1.2.2.2.2.2.2.2.2.2.2.2.1, x.1.2.2.2.2.2.2.2.2.2.2.2.2.1, (), ()), y4.1, x.2)) fun y5 => out1 y5
      (fun z6 =>
        some (.inr (.inl ((z6.1.1, z6.1.2.1, z6.1.2.2.1, z6.1.2.2.2.1, z6.1.2.2.2.2.1, z6.1.2.2.2.2.2.1, z6.1.2.2.2.2.2.2.1, z6.1.2.2.2.2.2.2.2.1, z6.1.2.2.2.2.2.2.2.2.1, z6.1.2.2.2.2.2.2.2.2.2.1, z6.1.2.2.2.2.2.2.2.2.2.2.1, z6.1.2.2.2.2.2.2.2.2.2.2.2.1, z6.1.2.2.2.2.2.2.2.2.2.2.2.2.1, (), ()), ())))))
noncomputable def k77L : LCtr := ⟨[0, 1, 2], (.cons (.ptr q78) (.cons (.val (.int .i64)) (.cons (.val (.int .i64)) .nil))), [], [], [⟨.ret, [0], (.cons (.ptr q78) .nil), [some 0, none]⟩, ⟨.normal, [0], (.cons (.ptr q78) .nil), [some 0, none]⟩], fun _ => [], cons_maker_at_p0⟩
noncomputable def cons_maker_at_p0_c : PI := mkPI Try.f29 k77L
theorem cons_maker_at_p0_ok : PIOK Try.prog 29 cons_maker_at_p0_c := proc_E (ls := []) k77 Try.func29 trivial (by kernel_rfl) (fun x => by kernel_rfl)
/-! ### easement/cons.Of: function 7, at objects -/
noncomputable def k78 : FE Try.prog := ⟨[(26, point_New_c), (27, point_Points_Len_c), (28, point_Points_At_c)], [(25, [cons_of_p1_c]), (29, [cons_maker_at_p0_c])], [], [], ⟨point_New_ok, point_Points_Len_ok, point_Points_At_ok, trivial⟩, ⟨⟨cons_of_p1_ok, trivial⟩, ⟨cons_maker_at_p0_ok, trivial⟩, trivial⟩, trivial⟩
noncomputable def cons_Of_p0_l8_step (g : T58 → Option T53) (x : T58) : Option T53 :=
  cond (decide (x.2.2.2.1 < x.2.2.1))
    (Option.bind (point_Points_At (x.2.1, x.2.2.2)) fun y5 =>
    Option.bind (cons_maker_at_p0 ((x.1.1, x.1.2.1, x.1.2.2.1, x.1.2.2.2.1, x.1.2.2.2.2.1, x.1.2.2.2.2.2.1, x.1.2.2.2.2.2.2.1, x.1.2.2.2.2.2.2.2.1, x.1.2.2.2.2.2.2.2.2.1, x.1.2.2.2.2.2.2.2.2.2.1, x.1.2.2.2.2.2.2.2.2.2.2.1, x.1.2.2.2.2.2.2.2.2.2.2.2.1, x.1.2.2.2.2.2.2.2.2.2.2.2.2.1, (), ()), y5.1, y5.2.1, ())) fun y6 => out2 y6
      (fun z7 =>
        g ((z7.1.1, z7.1.2.1, z7.1.2.2.1, z7.1.2.2.2.1, z7.1.2.2.2.2.1, z7.1.2.2.2.2.2.1, z7.1.2.2.2.2.2.2.1, z7.1.2.2.2.2.2.2.2.1, z7.1.2.2.2.2.2.2.2.2.1, z7.1.2.2.2.2.2.2.2.2.2.1, z7.1.2.2.2.2.2.2.2.2.2.2.1, z7.1.2.2.2.2.2.2.2.2.2.2.2.1, z7.1.2.2.2.2.2.2.2.2.2.2.2.2.1, (), ()), x.2.1, x.2.2.1, IntKind.i64.wrap (x.2.2.2.1 + (1 : Int)), ()))
      (fun z8 =>
        g ((z8.1.1, z8.1.2.1, z8.1.2.2.1, z8.1.2.2.2.1, z8.1.2.2.2.2.1, z8.1.2.2.2.2.2.1, z8.1.2.2.2.2.2.2.1, z8.1.2.2.2.2.2.2.2.1, z8.1.2.2.2.2.2.2.2.2.1, z8.1.2.2.2.2.2.2.2.2.2.1, z8.1.2.2.2.2.2.2.2.2.2.2.1, z8.1.2.2.2.2.2.2.2.2.2.2.2.1, z8.1.2.2.2.2.2.2.2.2.2.2.2.2.1, (), ()), x.2.1, x.2.2.1, IntKind.i64.wrap (x.2.2.2.1 + (1 : Int)), ())))
    (some (.inl ((x.1.1, x.1.2.1, x.1.2.2.1, x.1.2.2.2.1, x.1.2.2.2.2.1, x.1.2.2.2.2.2.1, x.1.2.2.2.2.2.2.1, x.1.2.2.2.2.2.2.2.1, x.1.2.2.2.2.2.2.2.2.1, x.1.2.2.2.2.2.2.2.2.2.1, x.1.2.2.2.2.2.2.2.2.2.2.1, x.1.2.2.2.2.2.2.2.2.2.2.2.1, x.1.2.2.2.2.2.2.2.2.2.2.2.2.1, (), ()), ())))
noncomputable def k78l1 : LCtr := ⟨[5, 6, 17, 18], (.cons (.ptr q78) (.cons (.val (.ptr (.cons (.lst (.int .i64)) .nil))) (.cons (.val (.int .i64)) (.cons (.val (.int .i64)) .nil)))), [some 0, none], [0, 1, 5], [⟨(.exit 0), [5], (.cons (.ptr q78) .nil), [some 0, none]⟩], fun _ => [], lim cons_Of_p0_l8_step⟩
theorem k78s : LsOK Try.prog Try.f7.ntmps (codeOf Try.f7) [(8, k78l1)] := loop_E 8 k78l1 k78 trivial (by kernel_rfl) rfl (fun g x => by kernel_rfl)
noncomputable def cons_Of_p0 (x : (V_api_Body × Unit × Unit)) : Option (((List V_api_Edge) × Unit) ⊕ Empty) :=
  Option.bind (cons_of_p1 (x.1, (), ())) fun y1 => out1 y1
    (fun z2 =>
      Option.bind (point_New (x.1, ())) fun y3 =>
      Option.bind (point_Points_Len y3) fun y4 =>
      Option.bind (lim cons_Of_p0_l8_step ((z2.1.1, z2.1.2.1, z2.1.2.2.1, z2.1.2.2.2.1, z2.1.2.2.2.2.1, z2.1.2.2.2.2.2.1, z2.1.2.2.2.2.2.2.1, z2.1.2.2.2.2.2.2.2.1, z2.1.2.2.2.2.2.2.2.2.1, z2.1.2.2.2.2.2.2.2.2.2.1, z2.1.2.2.2.2.2.2.2.2.2.2.1, z2.1.2.2.2.2.2.2.2.2.2.2.2.1, z2.1.2.2.2.2.2.2.2.2.2.2.2.2.1, (), ()), y3.1, y4.1, (0 : Int), ())) fun y9 => out1 y9
        (fun z10 =>
          some (.inl (z10.1.2.2.2.2.2.2.2.2.2.2.2.2.1, ()))))
noncomputable def k78L : LCtr := ⟨[0, 1], (.cons (.val t_api_Body) (.cons (.cst true) .nil)), [], [], [⟨.ret, [4], (.cons (.own t_api_Edge) .nil), [none]⟩], fun _ => [], cons_Of_p0⟩
noncomputable def cons_Of_p0_c : PI := mkPI Try.f7 k78L
theorem cons_Of_p0_ok : PIOK Try.prog 7 cons_Of_p0_c := proc_E k78 Try.func7 k78s (by kernel_rfl) (fun x => by kernel_rfl)
/-! ### easement/easementref22.All: function 30 -/
noncomputable def k79 : FE Try.prog := ⟨[(6, ref21_OK_c)], [], [], [], ⟨ref21_OK_ok, trivial⟩, trivial, trivial⟩
noncomputable def ref22_All_l18_step (g : ((List V_easementref22_Point) × Int × Int × Int × Unit) → Option (((List V_easementref22_Point) × Unit) ⊕ Empty)) (x : ((List V_easementref22_Point) × Int × Int × Int × Unit)) : Option (((List V_easementref22_Point) × Unit) ⊕ Empty) :=
  cond (decide (x.2.2.2.1 ≤ x.2.2.1))
    (let v1 := x.1 ++ [(x.2.1, x.2.2.2.1, x.2.2.2.1 == x.2.2.1, ())]
    ck (roomB v1.length 28) <|
    g (v1, x.2.1, x.2.2.1, IntKind.i64.wrap (x.2.2.2.1 + (1 : Int)), ()))
    (some (.inl (x.1, ())))
noncomputable def k79l1 : LCtr := ⟨[3, 4, 5, 6], (.cons (.own t_easementref22_Point) (.cons (.val (.int .i64)) (.cons (.val (.int .i64)) (.cons (.val (.int .i64)) .nil)))), [none], [1, 4], [⟨(.exit 2), [3], (.cons (.own t_easementref22_Point) .nil), [none]⟩], fun _ => [], lim ref22_All_l18_step⟩
noncomputable def ref22_All_l10_step (g : (V_api_Body × (List V_easementref22_Point) × Int × Unit) → Option T59) (x : (V_api_Body × (List V_easementref22_Point) × Int × Unit)) : Option T59 :=
  cond (decide (x.2.2.1 < (x.1.2.2.2.2.2.2.1.length : Int)))
    (ck (inB x.2.2.1 (x.1.2.2.2.2.2.2.1.length)) <|
    Option.bind (lim ref22_All_l18_step (x.2.1, x.2.2.1, ((rdL t_api_Block x.1.2.2.2.2.2.2.1 x.2.2.1).1.length : Int), (0 : Int), ())) fun y2 => out1 y2
      (fun z3 =>
        g (x.1, z3.1, IntKind.i64.wrap (x.2.2.1 + (1 : Int)), ())))
    (some (.inl (x.2.1, x.1, ())))
noncomputable def k79l2 : LCtr := ⟨[1, 3, 4], (.cons (.ptr q2) (.cons (.own t_easementref22_Point) (.cons (.val (.int .i64)) .nil))), [some 0, none], [], [⟨(.exit 0), [3, 1], (.cons (.own t_easementref22_Point) (.cons (.ptr q2) .nil)), [none, some 0]⟩], fun _ => [], lim ref22_All_l10_step⟩
theorem k79s : LsOK Try.prog Try.f30.ntmps (codeOf Try.f30) [(10, k79l2), (18, k79l1)] := loop_E 10 k79l2 k79 (loop_E 18 k79l1 k79 trivial (by kernel_rfl) rfl (fun g x => by kernel_rfl)) (by kernel_rfl) rfl (fun g x => by kernel_rfl)
noncomputable def ref22_All (x : (V_api_Body × Unit)) : Option ((List V_easementref22_Point) × Unit) :=
  Option.bind (ref21_OK x) fun y1 =>
  cond (!y1.1)
    (some (([] : List V_easementref22_Point), ()))
    (Option.bind (lim ref22_All_l10_step (x.1, ([] : List V_easementref22_Point), (0 : Int), ())) fun y4 => out1 y4
      (fun z5 =>
        some (z5.1, ())))
noncomputable def ref22_All_c : Ctr := ⟨(.cons t_api_Body .nil), (.cons (.lst t_easementref22_Point) .nil), ref22_All, none⟩
theorem ref22_All_ok : CtrOK Try.prog 30 ref22_All_c := fun_E k79 Try.func30 k79s (by kernel_rfl) (fun x => by kernel_rfl)
/-! ### easement/easementref27.At: function 31 -/
noncomputable def k80 : FE Try.prog := ⟨[(54, ref19_Needs_c), (55, ref18_Needs_c)], [], [], [], ⟨ref19_Needs_ok, ref18_Needs_ok, trivial⟩, trivial, trivial⟩
noncomputable def ref27_At_j37_v (x : (V_api_Body × V_easementref22_Point × V_api_Block × Bool × Unit)) : Option (((List V_api_Prov) × V_api_Body × V_easementref22_Point × V_api_Block × Unit) ⊕ Empty) :=
  cond (x.2.2.2.1)
    (Option.bind (ref19_Needs (x.2.2.1.2, ((x.1.2.2.2.2.2.2.1.length : Int), x.1.2.1, x.1.2.2.2.1, x.1.2.2.2.2.1, x.1.2.2.2.2.2.1, ()), ())) fun y1 =>
    some (.inl (y1.1, x.1, x.2.1, x.2.2.1, ())))
    (ck (inB x.2.1.2.1 (x.2.2.1.1.length)) <|
    Option.bind (ref18_Needs (rdL t_api_Prov x.2.2.1.1 x.2.1.2.1, x.1.2.2.2.1, x.1.2.1, ())) fun y2 =>
    some (.inl (y2.1, x.1, x.2.1, x.2.2.1, ())))
noncomputable def k80l1 : LCtr := ⟨[2, 3, 5, 18], (.cons (.ptr q2) (.cons (.ptr q85) (.cons (.ptr q86) (.cons (.val .bool) .nil)))), [], [3], [⟨.normal, [6, 2, 3, 5], (.cons (.val (.lst t_api_Prov)) (.cons (.ptr q2) (.cons (.ptr q85) (.cons (.ptr q86) .nil)))), [some 0, some 1, some 2]⟩], fun _ => [], ref27_At_j37_v⟩
noncomputable def ref27_At_l18_step (g : T62 → Option T63) (x : T62) : Option T63 :=
  cond (decide (x.2.2.2.1 < (x.2.1.length : Int)))
    (ck (inB x.2.2.2.1 (x.2.1.length)) <|
    ck (inB x.2.2.2.1 (x.2.1.length)) <|
    ck (inB x.2.2.2.1 (x.2.1.length)) <|
    ck (inB x.2.2.2.1 (x.2.1.length)) <|
    ck (inB x.2.2.2.1 (x.2.1.length)) <|
    let v1 := x.2.2.1 ++ [((rdL t_api_Prov x.2.1 x.2.2.2.1).1, (rdL t_api_Prov x.2.1 x.2.2.2.1).2.1, x.1.1, x.1.2.1, (rdL t_api_Prov x.2.1 x.2.2.2.1).2.2)]
    ck (roomB v1.length 64) <|
    g (x.1, x.2.1, v1, IntKind.i64.wrap (x.2.2.2.1 + (1 : Int)), ()))
    (some (.inl (x.2.2.1, x.1, ())))
noncomputable def k80l2 : LCtr := ⟨[3, 6, 8, 9], (.cons (.ptr q85) (.cons (.val (.lst t_api_Prov)) (.cons (.own t_api_Edge) (.cons (.val (.int .i64)) .nil)))), [some 0, none], [], [⟨(.exit 0), [8, 3], (.cons (.own t_api_Edge) (.cons (.ptr q85) .nil)), [none, some 0]⟩], fun _ => [], lim ref27_At_l18_step⟩
theorem k80s : LsOK Try.prog Try.f31.ntmps (codeOf Try.f31) [(18, k80l2), (51540131877, k80l1)] := loop_E 18 k80l2 k80 (join_E 51540131877 k80l1 k80 trivial (by kernel_rfl) (fun x => by kernel_rfl)) (by kernel_rfl) rfl (fun g x => by kernel_rfl)
noncomputable def ref27_At (x : (V_api_Body × V_easementref22_Point × Unit)) : Option ((List V_api_Edge) × Unit) :=
  ck (inB x.2.1.1 (x.1.2.2.2.2.2.2.1.length)) <|
  Option.bind (ref27_At_j37_v (x.1, x.2.1, rdL t_api_Block x.1.2.2.2.2.2.2.1 x.2.1.1, x.2.1.2.2)) fun y3 => out1 y3
    (fun z4 =>
      Option.bind (lim ref27_At_l18_step (z4.2.2.1, z4.1, ([] : List V_api_Edge), (0 : Int), ())) fun y5 => out1 y5
        (fun z6 =>
          some (z6.1, ())))
noncomputable def ref27_At_c : Ctr := ⟨(.cons t_api_Body (.cons t_easementref22_Point .nil)), (.cons (.lst t_api_Edge) .nil), ref27_At, none⟩
theorem ref27_At_ok : CtrOK Try.prog 31 ref27_At_c := fun_E k80 Try.func31 k80s (by kernel_rfl) (fun x => by kernel_rfl)
/-! ### easement/easementref27.Of: function 8 -/
noncomputable def k81 : FE Try.prog := ⟨[(30, ref22_All_c), (31, ref27_At_c)], [], [], [], ⟨ref22_All_ok, ref27_At_ok, trivial⟩, trivial, trivial⟩
noncomputable def ref27_Of_l8_step (g : T64 → Option (((List V_api_Edge) × V_api_Body × Unit) ⊕ Empty)) (x : T64) : Option (((List V_api_Edge) × V_api_Body × Unit) ⊕ Empty) :=
  cond (decide (x.2.2.2.1 < (x.2.1.length : Int)))
    (ck (inB x.2.2.2.1 (x.2.1.length)) <|
    Option.bind (ref27_At (x.1, rdL t_easementref22_Point x.2.1 x.2.2.2.1, ())) fun y2 =>
    ck (roomB (x.2.2.1 ++ y2.1).length 64) <|
    g (x.1, x.2.1, x.2.2.1 ++ y2.1, IntKind.i64.wrap (x.2.2.2.1 + (1 : Int)), ()))
    (some (.inl (x.2.2.1, x.1, ())))
noncomputable def k81l1 : LCtr := ⟨[1, 3, 4, 5], (.cons (.ptr q2) (.cons (.val (.lst t_easementref22_Point)) (.cons (.own t_api_Edge) (.cons (.val (.int .i64)) .nil)))), [some 0, none], [], [⟨(.exit 0), [4, 1], (.cons (.own t_api_Edge) (.cons (.ptr q2) .nil)), [none, some 0]⟩], fun _ => [], lim ref27_Of_l8_step⟩
theorem k81s : LsOK Try.prog Try.f8.ntmps (codeOf Try.f8) [(8, k81l1)] := loop_E 8 k81l1 k81 trivial (by kernel_rfl) rfl (fun g x => by kernel_rfl)
noncomputable def ref27_Of (x : (V_api_Body × Unit)) : Option ((List V_api_Edge) × Unit) :=
  Option.bind (ref22_All x) fun y1 =>
  Option.bind (lim ref27_Of_l8_step (x.1, y1.1, ([] : List V_api_Edge), (0 : Int), ())) fun y3 => out1 y3
    (fun z4 =>
      some (z4.1, ()))
noncomputable def ref27_Of_c : Ctr := ⟨(.cons t_api_Body .nil), (.cons (.lst t_api_Edge) .nil), ref27_Of, none⟩
theorem ref27_Of_ok : CtrOK Try.prog 8 ref27_Of_c := fun_E k81 Try.func8 k81s (by kernel_rfl) (fun x => by kernel_rfl)
/-! ### easement/numeral.Text: function 124 -/
noncomputable def numeral_Text_l10_step (g : T65 → Option ((ByteArray × Unit) ⊕ Empty)) (x : T65) : Option ((ByteArray × Unit) ⊕ Empty) :=
  ck (!decide ((10 : Int) = 0)) <|
  let v1 := IntKind.i64.wrap (x.2.2.1 - (1 : Int))
  ck (inB v1 19) <|
  ck (!decide ((10 : Int) = 0)) <|
  let v2 := IntKind.i64.wrap (Int.tdiv x.2.1 (10 : Int))
  cond (v2 == (0 : Int))
    (ck (decide (0 ≤ v1) && decide (v1 ≤ ((19 : Nat) : Int))) <|
    let v3 := IntKind.u8.wrap (IntKind.i64.wrap ((48 : Int) + (Int.tmod x.2.1 (10 : Int))))
    some (.inl (strOfNums (([cond (Nat.beq v1.toNat 0) v3 x.1.1, cond (Nat.beq v1.toNat 1) v3 x.1.2.1, cond (Nat.beq v1.toNat 2) v3 x.1.2.2.1, cond (Nat.beq v1.toNat 3) v3 x.1.2.2.2.1, cond (Nat.beq v1.toNat 4) v3 x.1.2.2.2.2.1, cond (Nat.beq v1.toNat 5) v3 x.1.2.2.2.2.2.1, cond (Nat.beq v1.toNat 6) v3 x.1.2.2.2.2.2.2.1, cond (Nat.beq v1.toNat 7) v3 x.1.2.2.2.2.2.2.2.1, cond (Nat.beq v1.toNat 8) v3 x.1.2.2.2.2.2.2.2.2.1, cond (Nat.beq v1.toNat 9) v3 x.1.2.2.2.2.2.2.2.2.2.1, cond (Nat.beq v1.toNat 10) v3 x.1.2.2.2.2.2.2.2.2.2.2.1, cond (Nat.beq v1.toNat 11) v3 x.1.2.2.2.2.2.2.2.2.2.2.2.1, cond (Nat.beq v1.toNat 12) v3 x.1.2.2.2.2.2.2.2.2.2.2.2.2.1, cond (Nat.beq v1.toNat 13) v3 x.1.2.2.2.2.2.2.2.2.2.2.2.2.2.1, cond (Nat.beq v1.toNat 14) v3 x.1.2.2.2.2.2.2.2.2.2.2.2.2.2.2.1, cond (Nat.beq v1.toNat 15) v3 x.1.2.2.2.2.2.2.2.2.2.2.2.2.2.2.2.1, cond (Nat.beq v1.toNat 16) v3 x.1.2.2.2.2.2.2.2.2.2.2.2.2.2.2.2.2.1, cond (Nat.beq v1.toNat 17) v3 x.1.2.2.2.2.2.2.2.2.2.2.2.2.2.2.2.2.2.1, cond (Nat.beq v1.toNat 18) v3 x.1.2.2.2.2.2.2.2.2.2.2.2.2.2.2.2.2.2.2.1] : List Int).drop v1.toNat), ())))
    (let v4 := IntKind.u8.wrap (IntKind.i64.wrap ((48 : Int) + (Int.tmod x.2.1 (10 : Int))))
    g ((cond (Nat.beq v1.toNat 0) v4 x.1.1, cond (Nat.beq v1.toNat 1) v4 x.1.2.1, cond (Nat.beq v1.toNat 2) v4 x.1.2.2.1, cond (Nat.beq v1.toNat 3) v4 x.1.2.2.2.1, cond (Nat.beq v1.toNat 4) v4 x.1.2.2.2.2.1, cond (Nat.beq v1.toNat 5) v4 x.1.2.2.2.2.2.1, cond (Nat.beq v1.toNat 6) v4 x.1.2.2.2.2.2.2.1, cond (Nat.beq v1.toNat 7) v4 x.1.2.2.2.2.2.2.2.1, cond (Nat.beq v1.toNat 8) v4 x.1.2.2.2.2.2.2.2.2.1, cond (Nat.beq v1.toNat 9) v4 x.1.2.2.2.2.2.2.2.2.2.1, cond (Nat.beq v1.toNat 10) v4 x.1.2.2.2.2.2.2.2.2.2.2.1, cond (Nat.beq v1.toNat 11) v4 x.1.2.2.2.2.2.2.2.2.2.2.2.1, cond (Nat.beq v1.toNat 12) v4 x.1.2.2.2.2.2.2.2.2.2.2.2.2.1, cond (Nat.beq v1.toNat 13) v4 x.1.2.2.2.2.2.2.2.2.2.2.2.2.2.1, cond (Nat.beq v1.toNat 14) v4 x.1.2.2.2.2.2.2.2.2.2.2.2.2.2.2.1, cond (Nat.beq v1.toNat 15) v4 x.1.2.2.2.2.2.2.2.2.2.2.2.2.2.2.2.1, cond (Nat.beq v1.toNat 16) v4 x.1.2.2.2.2.2.2.2.2.2.2.2.2.2.2.2.2.1, cond (Nat.beq v1.toNat 17) v4 x.1.2.2.2.2.2.2.2.2.2.2.2.2.2.2.2.2.2.1, cond (Nat.beq v1.toNat 18) v4 x.1.2.2.2.2.2.2.2.2.2.2.2.2.2.2.2.2.2.2.1, ()), v2, v1, ()))
noncomputable def k82l1 : LCtr := ⟨[3, 0, 4], (.cons (.ptr (.cons (.val (.int .u8)) (.cons (.val (.int .u8)) (.cons (.val (.int .u8)) (.cons (.val (.int .u8)) (.cons (.val (.int .u8)) (.cons (.val (.int .u8)) (.cons (.val (.int .u8)) (.cons (.val (.int .u8)) (.cons (.val (.int .u8)) (.cons (.val (.int .u8)) (.cons (.val (.int .u8)) (.cons (.val (.int .u8)) (.cons (.val (.int .u8)) (.cons (.val (.int .u8)) (.cons (.val (.int .u8)) (.cons (.val (.int .u8)) (.cons (.val (.int .u8)) (.cons (.val (.int .u8)) (.cons (.val (.int .u8)) .nil)))))))))))))))))))) (.cons (.val (.int .i64)) (.cons (.val (.int .i64)) .nil))), [some 0], [], [⟨.ret, [2], (.cons (.val .str) .nil), []⟩], fun _ => [], lim numeral_Text_l10_step⟩
theorem k82s : LsOK Try.prog Try.f124.ntmps (codeOf Try.f124) [(10, k82l1)] := loop_E 10 k82l1 k0 trivial (by kernel_rfl) rfl (fun g x => by kernel_rfl)
noncomputable def numeral_Text (x : (Int × Unit)) : Option (ByteArray × Unit) :=
  cond (decide (x.1 < (0 : Int)))
    (some ((⟨#[]⟩ : ByteArray), ()))
    (Option.bind (lim numeral_Text_l10_step (((0 : Int), (0 : Int), (0 : Int), (0 : Int), (0 : Int), (0 : Int), (0 : Int), (0 : Int), (0 : Int), (0 : Int), (0 : Int), (0 : Int), (0 : Int), (0 : Int), (0 : Int), (0 : Int), (0 : Int), (0 : Int), (0 : Int), ()), x.1, (19 : Int), ())) fun y1 => out1 y1
      (fun z2 =>
        some z2))
noncomputable def numeral_Text_c : Ctr := ⟨(.cons (.int .i64) .nil), (.cons .str .nil), numeral_Text, none⟩
theorem numeral_Text_ok : CtrOK Try.prog 124 numeral_Text_c := fun_E k0 Try.func124 k82s (by kernel_rfl) (fun x => by kernel_rfl)
/-! ### easement/numeral.Pair: function 87 -/
noncomputable def k83 : FE Try.prog := ⟨[(124, numeral_Text_c)], [], [], [], ⟨numeral_Text_ok, trivial⟩, trivial, trivial⟩
noncomputable def numeral_Pair (x : (V_easementref08_Pair × Unit)) : Option (ByteArray × Unit) :=
  cond (cond (decide (x.1.1 < (0 : Int))) true (decide (x.1.2.1 < (0 : Int))))
    (some ((⟨#[]⟩ : ByteArray), ()))
    (Option.bind (numeral_Text (x.1.1, ())) fun y1 =>
    ck (decide (y1.1.size + (⟨#[58]⟩ : ByteArray).size ≤ 140737488355328)) <|
    Option.bind (numeral_Text x.1.2) fun y2 =>
    let v1 := y1.1 ++ (⟨#[58]⟩ : ByteArray)
    ck (decide (v1.size + y2.1.size ≤ 140737488355328)) <|
    some (v1 ++ y2.1, ()))
noncomputable def numeral_Pair_c : Ctr := ⟨(.cons t_easementref08_Pair .nil), (.cons .str .nil), numeral_Pair, none⟩
theorem numeral_Pair_ok : CtrOK Try.prog 87 numeral_Pair_c := fun_E (ls := []) k83 Try.func87 trivial (by kernel_rfl) (fun x => by kernel_rfl)
/-! ### easement/prov.Right: function 10 -/
noncomputable def prov_Right (x : (V_api_Prov × Unit)) : Option (Bool × Unit) :=
  some (cond (cond (cond (cond (decide (x.1.1 ≥ (0 : Int))) (decide (x.1.2.1 ≥ (0 : Int))) false) (decide (x.1.2.2.2.1 ≥ (0 : Int))) false) (decide (x.1.2.2.1 ≥ (1 : Int))) false) (decide (x.1.2.2.1 ≤ (7 : Int))) false, ())
noncomputable def prov_Right_c : Ctr := ⟨(.cons t_api_Prov .nil), (.cons .bool .nil), prov_Right, none⟩
theorem prov_Right_ok : CtrOK Try.prog 10 prov_Right_c := fun_E (ls := []) k0 Try.func10 trivial (by kernel_rfl) (fun x => by kernel_rfl)
/-! ### easement/prov.names: function 152 -/
noncomputable def prov_names (x : Unit) : Option ((List ByteArray) × Unit) :=
  some ([(⟨#[102, 108, 111, 119]⟩ : ByteArray), (⟨#[108, 111, 97, 110]⟩ : ByteArray), (⟨#[98, 97, 115, 101]⟩ : ByteArray), (⟨#[110, 101, 101, 100]⟩ : ByteArray), (⟨#[112, 97, 115, 115]⟩ : ByteArray), (⟨#[103, 105, 118, 101]⟩ : ByteArray), (⟨#[111, 117, 116]⟩ : ByteArray)], ())
noncomputable def prov_names_c : Ctr := ⟨.nil, (.cons (.lst .str) .nil), prov_names, none⟩
theorem prov_names_ok : CtrOK Try.prog 152 prov_names_c := fun_E (ls := []) k0 Try.func152 trivial (by kernel_rfl) (fun x => by kernel_rfl)
/-! ### easement/prov.Name: function 125 -/
noncomputable def k86 : FE Try.prog := ⟨[(152, prov_names_c)], [], [], [], ⟨prov_names_ok, trivial⟩, trivial, trivial⟩
noncomputable def prov_Name (x : (Int × Unit)) : Option (ByteArray × Unit) :=
  cond (cond (decide (x.1 < (1 : Int))) true (decide (x.1 > (7 : Int))))
    (some ((⟨#[63]⟩ : ByteArray), ()))
    (Option.bind (prov_names ()) fun y1 =>
    let v1 := IntKind.i64.wrap (x.1 - (1 : Int))
    ck (inB v1 (y1.1.length)) <|
    some (rdL .str y1.1 v1, ()))
noncomputable def prov_Name_c : Ctr := ⟨(.cons (.int .i64) .nil), (.cons .str .nil), prov_Name, none⟩
theorem prov_Name_ok : CtrOK Try.prog 125 prov_Name_c := fun_E (ls := []) k86 Try.func125 trivial (by kernel_rfl) (fun x => by kernel_rfl)
/-! ### easement/prov.Text: function 88 -/
noncomputable def k87 : FE Try.prog := ⟨[(10, prov_Right_c), (124, numeral_Text_c), (125, prov_Name_c)], [], [], [], ⟨prov_Right_ok, numeral_Text_ok, prov_Name_ok, trivial⟩, trivial, trivial⟩
noncomputable def prov_Text_j53_v (x : (ByteArray × Bool × Unit)) : Option ((ByteArray × Unit) ⊕ Empty) :=
  cond (x.2.1)
    (let v1 := (⟨#[32, 98, 97, 99, 107]⟩ : ByteArray)
    ck (decide (x.1.size + v1.size ≤ 140737488355328)) <|
    some (.inl (x.1 ++ v1, ())))
    (some (.inl (x.1, ())))
noncomputable def k87l1 : LCtr := ⟨[3, 26], (.cons (.val .str) (.cons (.val .bool) .nil)), [], [], [⟨.normal, [3], (.cons (.val .str) .nil), []⟩], fun _ => [], prov_Text_j53_v⟩
theorem k87s : LsOK Try.prog Try.f88.ntmps (codeOf Try.f88) [(655413, k87l1)] := join_E 655413 k87l1 k87 trivial (by kernel_rfl) (fun x => by kernel_rfl)
noncomputable def prov_Text (x : (V_api_Prov × Unit)) : Option (ByteArray × Unit) :=
  Option.bind (prov_Right x) fun y1 =>
  cond (!y1.1)
    (some ((⟨#[63]⟩ : ByteArray), ()))
    (Option.bind (numeral_Text (x.1.1, ())) fun y2 =>
    ck (decide (y2.1.size + (⟨#[46]⟩ : ByteArray).size ≤ 140737488355328)) <|
    Option.bind (numeral_Text (x.1.2.1, ())) fun y3 =>
    let v1 := y2.1 ++ (⟨#[46]⟩ : ByteArray)
    ck (decide (v1.size + y3.1.size ≤ 140737488355328)) <|
    ck (decide ((v1 ++ y3.1).size + (⟨#[32]⟩ : ByteArray).size ≤ 140737488355328)) <|
    Option.bind (prov_Name (x.1.2.2.1, ())) fun y4 =>
    let v2 := (v1 ++ y3.1) ++ (⟨#[32]⟩ : ByteArray)
    ck (decide (v2.size + y4.1.size ≤ 140737488355328)) <|
    ck (decide ((v2 ++ y4.1).size + (⟨#[32]⟩ : ByteArray).size ≤ 140737488355328)) <|
    Option.bind (numeral_Text (x.1.2.2.2.1, ())) fun y5 =>
    let v3 := (v2 ++ y4.1) ++ (⟨#[32]⟩ : ByteArray)
    ck (decide (v3.size + y5.1.size ≤ 140737488355328)) <|
    Option.bind (prov_Text_j53_v (v3 ++ y5.1, x.1.2.2.2.2)) fun y6 => out1 y6
      (fun z7 =>
        some z7))
noncomputable def prov_Text_c : Ctr := ⟨(.cons t_api_Prov .nil), (.cons .str .nil), prov_Text, none⟩
theorem prov_Text_ok : CtrOK Try.prog 88 prov_Text_c := fun_E k87 Try.func88 k87s (by kernel_rfl) (fun x => by kernel_rfl)
/-! ### easement/prov.Edge: function 56 -/
noncomputable def k88 : FE Try.prog := ⟨[(87, numeral_Pair_c), (88, prov_Text_c)], [], [], [], ⟨numeral_Pair_ok, prov_Text_ok, trivial⟩, trivial, trivial⟩
noncomputable def prov_Edge (x : (V_api_Edge × Unit)) : Option (ByteArray × Unit) :=
  Option.bind (numeral_Pair ((x.1.1, x.1.2.1, ()), ())) fun y1 =>
  let v1 := (⟨#[32, 97, 116, 32]⟩ : ByteArray)
  ck (decide (y1.1.size + v1.size ≤ 140737488355328)) <|
  Option.bind (prov_Text (x.1.2.2, ())) fun y2 =>
  ck (decide ((y1.1 ++ v1).size + y2.1.size ≤ 140737488355328)) <|
  some ((y1.1 ++ v1) ++ y2.1, ())
noncomputable def prov_Edge_c : Ctr := ⟨(.cons t_api_Edge .nil), (.cons .str .nil), prov_Edge, none⟩
theorem prov_Edge_ok : CtrOK Try.prog 56 prov_Edge_c := fun_E (ls := []) k88 Try.func56 trivial (by kernel_rfl) (fun x => by kernel_rfl)
/-! ### easement/cons.Lines: function 32 -/
noncomputable def k89 : FE Try.prog := ⟨[(56, prov_Edge_c)], [], [], [], ⟨prov_Edge_ok, trivial⟩, trivial, trivial⟩
noncomputable def cons_Lines_l6_step (g : ((List ByteArray) × (List V_api_Edge) × Int × Int × Unit) → Option (((List ByteArray) × Unit) ⊕ Empty)) (x : ((List ByteArray) × (List V_api_Edge) × Int × Int × Unit)) : Option (((List ByteArray) × Unit) ⊕ Empty) :=
  cond (decide (x.2.2.2.1 < x.2.2.1))
    (ck (inB x.2.2.2.1 (x.2.1.length)) <|
    Option.bind (prov_Edge (rdL t_api_Edge x.2.1 x.2.2.2.1, ())) fun y1 =>
    ck (roomB (x.1 ++ [y1.1]).length 18) <|
    g (x.1 ++ [y1.1], x.2.1, x.2.2.1, IntKind.i64.wrap (x.2.2.2.1 + (1 : Int)), ()))
    (some (.inl (x.1, ())))
noncomputable def k89l1 : LCtr := ⟨[3, 6, 7, 8], (.cons (.own .str) (.cons (.val (.lst t_api_Edge)) (.cons (.val (.int .i64)) (.cons (.val (.int .i64)) .nil)))), [none], [], [⟨(.exit 0), [3], (.cons (.own .str) .nil), [none]⟩], fun _ => [], lim cons_Lines_l6_step⟩
theorem k89s : LsOK Try.prog Try.f32.ntmps (codeOf Try.f32) [(6, k89l1)] := loop_E 6 k89l1 k89 trivial (by kernel_rfl) rfl (fun g x => by kernel_rfl)
noncomputable def cons_Lines (x : ((List V_api_Edge) × Unit)) : Option ((List ByteArray) × Unit) :=
  Option.bind (lim cons_Lines_l6_step (([] : List ByteArray), x.1, (x.1.length : Int), (0 : Int), ())) fun y2 => out1 y2
    (fun z3 =>
      some z3)
noncomputable def cons_Lines_c : Ctr := ⟨(.cons (.lst t_api_Edge) .nil), (.cons (.lst .str) .nil), cons_Lines, none⟩
theorem cons_Lines_ok : CtrOK Try.prog 32 cons_Lines_c := fun_E k89 Try.func32 k89s (by kernel_rfl) (fun x => by kernel_rfl)
/-! ### easement/easementlaw27.awake: function 9 -/
noncomputable def k90 : FE Try.prog := ⟨[(32, cons_Lines_c)], [(7, [cons_Of_p0_c])], [(20, [0])], [], ⟨cons_Lines_ok, trivial⟩, ⟨⟨cons_Of_p0_ok, trivial⟩, trivial⟩, trivial⟩
noncomputable def law27_awake (x : Unit) : Option (Bool × Unit) :=
  Option.bind (cons_Of_p0 (((1 : Int), (3 : Int), ([] : List V_easementref08_Pair), [([((1 : Int), false, ())], ()), ([((2 : Int), false, ())], ())], [((0 : Int), false, ())], ([] : List V_api_Sig), [([((1 : Int), (0 : Int), (1 : Int), (0 : Int), false, ())], (3 : Int), (0 : Int), (0 : Int), ([] : List Int), ([] : List Int), ([] : List Int), ())], ()), (), ())) fun y1 => out1 y1
    (fun z2 =>
      Option.bind (cons_Lines z2) fun y3 =>
      let v1 := (y3.1.length : Int) == (2 : Int)
      ck ((inB (0 : Int) (y3.1.length)) || !v1) <|
      let v2 := cond v1 ((rdL .str y3.1 (0 : Int)).toList == (⟨#[50, 58, 49, 32, 97, 116, 32, 48, 46, 48, 32, 102, 108, 111, 119, 32, 48]⟩ : ByteArray).toList) false
      ck ((inB (1 : Int) (y3.1.length)) || !v2) <|
      some (cond v2 ((rdL .str y3.1 (1 : Int)).toList == (⟨#[49, 58, 48, 32, 97, 116, 32, 48, 46, 49, 32, 111, 117, 116, 32, 48]⟩ : ByteArray).toList) false, ()))
noncomputable def law27_awake_c : Ctr := ⟨.nil, (.cons .bool .nil), law27_awake, none⟩
theorem law27_awake_ok : CtrOK Try.prog 9 law27_awake_c := fun_E (ls := []) k90 Try.func9 trivial (by kernel_rfl) (fun x => by kernel_rfl)
/-! ### easement/easementref27.Same: function 11 -/
noncomputable def ref27_Same_l8_step (g : ((List V_api_Edge) × (List V_api_Edge) × Int × Unit) → Option ((Bool × Unit) ⊕ (Unit ⊕ Empty))) (x : ((List V_api_Edge) × (List V_api_Edge) × Int × Unit)) : Option ((Bool × Unit) ⊕ (Unit ⊕ Empty)) :=
  cond (decide (x.2.2.1 < (x.1.length : Int)))
    (ck (inB x.2.2.1 (x.1.length)) <|
    ck (inB x.2.2.1 (x.2.1.length)) <|
    let v1 := rdL t_api_Edge x.1 x.2.2.1
    let v2 := rdL t_api_Edge x.2.1 x.2.2.1
    cond (!((v1.1 == v2.1) && ((v1.2.1 == v2.2.1) && ((v1.2.2.1 == v2.2.2.1) && ((v1.2.2.2.1 == v2.2.2.2.1) && ((v1.2.2.2.2.1 == v2.2.2.2.2.1) && ((v1.2.2.2.2.2.1 == v2.2.2.2.2.2.1) && ((v1.2.2.2.2.2.2.1 == v2.2.2.2.2.2.2.1) && true))))))))
      (some (.inl (false, ())))
      (g (x.1, x.2.1, IntKind.i64.wrap (x.2.2.1 + (1 : Int)), ())))
    (some (.inr (.inl ())))
noncomputable def k91l1 : LCtr := ⟨[0, 1, 5], (.cons (.val (.lst t_api_Edge)) (.cons (.val (.lst t_api_Edge)) (.cons (.val (.int .i64)) .nil))), [], [], [⟨.ret, [4], (.cons (.val .bool) .nil), []⟩, ⟨(.exit 0), [], .nil, []⟩], fun _ => [], lim ref27_Same_l8_step⟩
theorem k91s : LsOK Try.prog Try.f11.ntmps (codeOf Try.f11) [(8, k91l1)] := loop_E 8 k91l1 k0 trivial (by kernel_rfl) rfl (fun g x => by kernel_rfl)
noncomputable def ref27_Same (x : ((List V_api_Edge) × (List V_api_Edge) × Unit)) : Option (Bool × Unit) :=
  cond ((x.1.length : Int) != (x.2.1.length : Int))
    (some (false, ()))
    (Option.bind (lim ref27_Same_l8_step (x.1, x.2.1, (0 : Int), ())) fun y1 => out2 y1
      (fun z2 =>
        some z2)
      (fun z3 =>
        some (true, ())))
noncomputable def ref27_Same_c : Ctr := ⟨(.cons (.lst t_api_Edge) (.cons (.lst t_api_Edge) .nil)), (.cons .bool .nil), ref27_Same, none⟩
theorem ref27_Same_ok : CtrOK Try.prog 11 ref27_Same_c := fun_E k0 Try.func11 k91s (by kernel_rfl) (fun x => by kernel_rfl)
/-! ### easement/easementlaw27.ConsRise: function 3 -/
noncomputable def k92 : FE Try.prog := ⟨[(5, ref20_Small_c), (6, ref21_OK_c), (8, ref27_Of_c), (9, law27_awake_c), (10, prov_Right_c), (11, ref27_Same_c)], [(7, [cons_Of_p0_c])], [(213, [0]), (1000002, [3]), (3000020, [204]), (4000202, [1]), (4000207, [1])], [], ⟨ref20_Small_ok, ref21_OK_ok, ref27_Of_ok, law27_awake_ok, prov_Right_ok, ref27_Same_ok, trivial⟩, ⟨⟨cons_Of_p0_ok, trivial⟩, trivial⟩, trivial⟩
noncomputable def law27_ConsRise_j303_v (x : ((List V_api_Edge) × (List V_api_Edge) × Int × Bool × Unit)) : Option (((List V_api_Edge) × (List V_api_Edge) × Unit) ⊕ Empty) :=
  cond (x.2.2.2.1)
    (ck (inB x.2.2.1 (x.1.length)) <|
    let v1 := x.2.1 ++ [x.1.getD x.2.2.1.toNat (Ty.dflt t_api_Edge)]
    ck (roomB v1.length 64) <|
    some (.inl (v1, x.1, ())))
    (some (.inl (x.2.1, x.1, ())))
noncomputable def k92l1 : LCtr := ⟨[7, 8, 9, 151], (.cons (.own t_api_Edge) (.cons (.own t_api_Edge) (.cons (.val (.int .i64)) (.cons (.val .bool) .nil)))), [], [1, 2, 3, 7, 9], [⟨.normal, [8, 7], (.cons (.own t_api_Edge) (.cons (.own t_api_Edge) .nil)), [none, some 0]⟩], fun _ => [], law27_ConsRise_j303_v⟩
noncomputable def law27_ConsRise_l12_step (g : T66 → Option T67) (x : T66) : Option T67 :=
  cond (decide (x.2.2.2.2.2.1 < (x.2.2.2.1.length : Int)))
    (ck (inB x.2.2.2.2.2.1 (x.2.2.2.1.length)) <|
    let v1 := (x.2.2.2.1.getD x.2.2.2.2.2.1.toNat (Ty.dflt t_api_Edge)).2.2
    Option.bind (prov_Right (v1, ())) fun y9 =>
    ck ((inB x.2.2.2.2.2.1 (x.2.2.2.1.length)) || !(!(!y9.1))) <|
    let v2 := cond (!y9.1) true (decide ((x.2.2.2.1.getD x.2.2.2.2.2.1.toNat (Ty.dflt t_api_Edge)).1 < (0 : Int)))
    ck ((inB x.2.2.2.2.2.1 (x.2.2.2.1.length)) || !(!v2)) <|
    let v3 := cond v2 true (decide ((x.2.2.2.1.getD x.2.2.2.2.2.1.toNat (Ty.dflt t_api_Edge)).1 ≥ x.1.2.1))
    ck ((inB x.2.2.2.2.2.1 (x.2.2.2.1.length)) || !(!v3)) <|
    let v4 := cond v3 true (decide ((x.2.2.2.1.getD x.2.2.2.2.2.1.toNat (Ty.dflt t_api_Edge)).2.1 < (0 : Int)))
    ck ((inB x.2.2.2.2.2.1 (x.2.2.2.1.length)) || !(!v4)) <|
    let v5 := cond (cond v4 true (decide ((x.2.2.2.1.getD x.2.2.2.2.2.1.toNat (Ty.dflt t_api_Edge)).2.1 ≥ x.1.2.1))) true (decide (v1.1 ≥ (x.1.2.2.2.2.2.2.1.length : Int)))
    ck ((inB v1.1 (x.1.2.2.2.2.2.2.1.length)) || !(!v5)) <|
    cond (cond v5 true (decide (v1.2.1 > ((rdL t_api_Block x.1.2.2.2.2.2.2.1 v1.1).1.length : Int))))
      (some (.inl (false, x.1, x.2.2.2.1, x.2.2.2.2.1, ())))
      (let v6 := IntKind.i64.wrap (x.2.2.2.2.2.1 - (1 : Int))
      let v7 := decide (x.2.2.2.2.2.1 > (0 : Int))
      ck ((inB v6 (x.2.2.2.1.length)) || !v7) <|
      let v8 := IntKind.i64.wrap (x.2.2.2.2.2.1 - (1 : Int))
      let v9 := decide ((x.2.2.2.1.getD v6.toNat (Ty.dflt t_api_Edge)).2.2.1 > v1.1)
      ck ((inB v8 (x.2.2.2.1.length)) || !((!v9) && v7)) <|
      let v10 := IntKind.i64.wrap (x.2.2.2.2.2.1 - (1 : Int))
      let v11 := (x.2.2.2.1.getD v8.toNat (Ty.dflt t_api_Edge)).2.2.1 == v1.1
      ck ((inB v10 (x.2.2.2.1.length)) || !(v11 && ((!v9) && v7))) <|
      cond (cond v7 (cond v9 true (cond v11 (decide ((x.2.2.2.1.getD v10.toNat (Ty.dflt t_api_Edge)).2.2.2.1 > v1.2.1)) false)) false)
        (some (.inl (false, x.1, x.2.2.2.1, x.2.2.2.2.1, ())))
        (Option.bind (law27_ConsRise_j303_v (x.2.2.2.1, x.2.2.2.2.1, x.2.2.2.2.2.1, cond (v1.1 != x.2.1) true (v1.2.1 != x.2.2.1), ())) fun y10 => out1 y10
          (fun z11 =>
            g (x.1, x.2.1, x.2.2.1, z11.2.1, z11.1, IntKind.i64.wrap (x.2.2.2.2.2.1 + (1 : Int)), ())))))
    (some (.inr (.inl (x.2.2.2.2.1, x.1, x.2.2.2.1, ()))))
noncomputable def k92l2 : LCtr := ⟨[3, 1, 2, 7, 8, 9], (.cons (.ptr q2) (.cons (.val (.int .i64)) (.cons (.val (.int .i64)) (.cons (.own t_api_Edge) (.cons (.own t_api_Edge) (.cons (.val (.int .i64)) .nil)))))), [some 0, some 1, none], [1, 2, 3], [⟨.ret, [6, 3, 7, 8], (.cons (.val .bool) (.cons (.ptr q2) (.cons (.own t_api_Edge) (.cons (.own t_api_Edge) .nil)))), [some 0, some 1, none]⟩, ⟨(.exit 0), [8, 3, 7], (.cons (.own t_api_Edge) (.cons (.ptr q2) (.cons (.own t_api_Edge) .nil))), [none, some 0, some 1]⟩], fun _ => [], lim law27_ConsRise_l12_step⟩
theorem k92s : LsOK Try.prog Try.f3.ntmps (codeOf Try.f3) [(12, k92l2), (1835311, k92l1)] := loop_E 12 k92l2 k92 (join_E 1835311 k92l1 k92 trivial (by kernel_rfl) (fun x => by kernel_rfl)) (by kernel_rfl) rfl (fun g x => by kernel_rfl)
noncomputable def law27_ConsRise (x : (V_api_Body × Int × Int × Unit)) : Option (Bool × Unit) :=
  Option.bind (ref20_Small (x.1, ())) fun y1 =>
  cond (!(!y1.1))
    (Option.bind (ref21_OK (x.1, ())) fun y2 =>
    cond (!y2.1)
      (Option.bind (cons_Of_p0 (x.1, (), ())) fun y3 => out1 y3
        (fun z4 =>
          Option.bind (ref27_Of (x.1, ())) fun y5 =>
          cond ((z4.1.length : Int) == (y5.1.length : Int))
            (Option.bind (law27_awake ()) fun y6 =>
            some y6)
            (some (false, ()))))
      (Option.bind (cons_Of_p0 (x.1, (), ())) fun y7 => out1 y7
        (fun z8 =>
          Option.bind (lim law27_ConsRise_l12_step (x.1, x.2.1, x.2.2.1, z8.1, ([] : List V_api_Edge), (0 : Int), ())) fun y12 => out2 y12
            (fun z13 =>
              some (z13.1, ()))
            (fun z14 =>
              let v1 := cond (cond (decide (x.2.1 < (0 : Int))) true (decide (x.2.1 ≥ (z14.2.1.2.2.2.2.2.2.1.length : Int)))) true (decide (x.2.2.1 < (0 : Int)))
              ck ((inB x.2.1 (z14.2.1.2.2.2.2.2.2.1.length)) || !(!v1)) <|
              cond (cond v1 true (decide (x.2.2.1 ≥ ((rdL t_api_Block z14.2.1.2.2.2.2.2.2.1 x.2.1).1.length : Int))))
                (Option.bind (law27_awake ()) fun y15 =>
                some y15)
                (let v2 := ([] : List V_api_Block) ++ z14.2.1.2.2.2.2.2.2.1
                ck (roomB v2.length 128) <|
                ck (inB x.2.1 (z14.2.1.2.2.2.2.2.2.1.length)) <|
                let v3 := ([] : List V_api_Prov) ++ (rdL t_api_Block z14.2.1.2.2.2.2.2.2.1 x.2.1).1
                ck (roomB v3.length 46) <|
                ck (inB x.2.1 (v2.length)) <|
                ck (inB x.2.1 (v2.length)) <|
                ck (Nat.beq x.2.1.toNat x.2.1.toNat) <|
                ck (inB x.2.2.1 (v3.length)) <|
                Option.bind (cons_Of_p0 ((z14.2.1.1, z14.2.1.2.1, z14.2.1.2.2.1, z14.2.1.2.2.2.1, z14.2.1.2.2.2.2.1, z14.2.1.2.2.2.2.2.1, v2.set x.2.1.toNat (v3.set x.2.2.1.toNat ((0 : Int), (0 : Int), (0 : Int), (0 : Int), false, (v3.getD x.2.2.1.toNat (Ty.dflt t_api_Prov)).2.2.2.2.2), (v2.getD x.2.1.toNat (Ty.dflt t_api_Block)).2), ()), (), ())) fun y16 => out1 y16
                  (fun z17 =>
                    Option.bind (ref27_Same (z17.1, z14.1, ())) fun y18 =>
                    cond (y18.1)
                      (Option.bind (law27_awake ()) fun y19 =>
                      some y19)
                      (some (false, ()))))))))
    (Option.bind (cons_Of_p0 (x.1, (), ())) fun y20 => out1 y20
      (fun z21 =>
        Option.bind (ref27_Of (x.1, ())) fun y22 =>
        cond ((z21.1.length : Int) == (y22.1.length : Int))
          (Option.bind (law27_awake ()) fun y23 =>
          some y23)
          (some (false, ()))))
noncomputable def law27_ConsRise_c : Ctr := ⟨(.cons t_api_Body (.cons (.int .i64) (.cons (.int .i64) .nil))), (.cons .bool .nil), law27_ConsRise, none⟩
theorem law27_ConsRise_ok : CtrOK Try.prog 3 law27_ConsRise_c := fun_E k92 Try.func3 k92s (by kernel_rfl) (fun x => by kernel_rfl)
end Go.XD


