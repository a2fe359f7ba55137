/- For every input of bulk at most 1048576 the law ValidStays returns true, and its arguments read as they did. -/
import Derived.Test.YtpgmlgdbchjhfaaProg
import Derived.KernelRfl
import Derived.Test.YtpgmlgdbchjhfaaBd
set_option linter.unusedVariables false
set_option linter.unusedSimpArgs false
set_option linter.unusedSectionVars false
set_option linter.unnecessarySimpa false
set_option linter.deprecated false
set_option maxRecDepth 100000
namespace Go.XD
open Go.Proofs

abbrev t_api_Slot : Ty := (.st (.cons (.int .i64) (.cons .bool .nil)))
abbrev V_api_Slot : Type := (Int × Bool × Unit)
abbrev t_api_Type : Ty := (.st (.cons (.lst t_api_Slot) .nil))
abbrev V_api_Type : Type := ((List V_api_Slot) × Unit)
abbrev t_easementref08_Pair : Ty := (.st (.cons (.int .i64) (.cons (.int .i64) .nil)))
abbrev V_easementref08_Pair : Type := (Int × Int × Unit)
abbrev t_api_Sig : Ty := (.st (.cons (.int .i64) (.cons (.lst t_easementref08_Pair) (.cons (.lst t_api_Type) (.cons (.lst t_api_Slot) .nil)))))
abbrev V_api_Sig : Type := (Int × (List V_easementref08_Pair) × (List V_api_Type) × (List V_api_Slot) × Unit)
abbrev t_api_Prov : Ty := (.st (.cons (.int .i64) (.cons (.int .i64) (.cons (.int .i64) (.cons (.int .i64) (.cons .bool .nil))))))
abbrev V_api_Prov : Type := (Int × Int × Int × Int × Bool × Unit)
abbrev t_api_Block : Ty := (.st (.cons (.lst t_api_Prov) (.cons (.int .i64) (.cons (.int .i64) (.cons (.int .i64) (.cons (.lst (.int .i64)) (.cons (.lst (.int .i64)) (.cons (.lst (.int .i64)) .nil))))))))
abbrev V_api_Block : Type := ((List V_api_Prov) × Int × Int × Int × (List Int) × (List Int) × (List Int) × Unit)
abbrev t_api_Body : Ty := (.st (.cons (.int .i64) (.cons (.int .i64) (.cons (.lst t_easementref08_Pair) (.cons (.lst t_api_Type) (.cons (.lst t_api_Slot) (.cons (.lst t_api_Sig) (.cons (.lst t_api_Block) .nil))))))))
abbrev V_api_Body : Type := (Int × Int × (List V_easementref08_Pair) × (List V_api_Type) × (List V_api_Slot) × (List V_api_Sig) × (List V_api_Block) × Unit)
abbrev t_valid_Fault : Ty := (.st (.cons (.int .i64) (.cons (.int .i64) (.cons (.int .i64) (.cons (.int .i64) .nil)))))
abbrev V_valid_Fault : Type := (Int × Int × Int × Int × Unit)
abbrev t_api_Term : Ty := (.st (.cons (.int .i64) (.cons (.int .i64) (.cons (.int .i64) (.cons (.lst (.int .i64)) (.cons (.lst (.int .i64)) (.cons (.lst (.int .i64)) .nil)))))))
abbrev V_api_Term : Type := (Int × Int × Int × (List Int) × (List Int) × (List Int) × Unit)
abbrev t_term_Around : Ty := (.st (.cons (.int .i64) (.cons (.int .i64) (.cons (.lst t_api_Type) (.cons (.lst t_api_Slot) (.cons (.lst t_api_Sig) .nil))))))
abbrev V_term_Around : Type := (Int × Int × (List V_api_Type) × (List V_api_Slot) × (List V_api_Sig) × Unit)
abbrev t_tick_Counter : Ty := (.st (.cons (.int .i64) (.cons (.int .i64) (.cons (.int .i64) (.cons (.int .i64) (.cons (.int .i64) (.cons (.int .i64) (.cons (.int .i64) .nil))))))))
abbrev V_tick_Counter : Type := (Int × Int × Int × Int × Int × Int × Int × Unit)
abbrev t_stmt_fields : Ty := (.st (.cons .bool (.cons .bool (.cons .bool .nil))))
abbrev V_stmt_fields : Type := (Bool × Bool × Bool × Unit)

/-! ### easement/easementref15.Few: function 21 -/
noncomputable def ref15_Few_code : Code := Try.f21.body.getD .skip
noncomputable def ref15_Few_fs : List (Nat × Ctr) := []
noncomputable def ref15_Few_is : List (Nat × List PI) := []
theorem ref15_Few_fsok : FsOK Try.prog ref15_Few_fs := trivial
theorem ref15_Few_isok : IsOK Try.prog ref15_Few_is := trivial
def ref15_Few_fz : List (Nat × List Nat) := []
noncomputable def ref15_Few_ls0 : List (Nat × LCtr) := []
theorem ref15_Few_lsok0 : LsOK Try.prog Try.f21.ntmps ref15_Few_code ref15_Few_ls0 := trivial
noncomputable def ref15_Few (x : (V_api_Type × Int × Unit)) : Option (Bool × Unit) :=
  some (decide ((x.1.1.length : Int) ≤ x.2.1), ())
noncomputable def ref15_Few_c : Ctr := ⟨(.cons t_api_Type (.cons (.int .i64) .nil)), (.cons .bool .nil), ref15_Few, none⟩
theorem ref15_Few_ok : CtrOK Try.prog 21 ref15_Few_c :=
  fun_at (fz := ref15_Few_fz) ref15_Few_fsok ref15_Few_isok Try.func21 (by kernel_rfl) (c := ref15_Few_code) (by kernel_rfl) ref15_Few_lsok0 (by kernel_rfl) (fun x => by kernel_rfl)
/-! ### easement/easementref17.Few: function 92 -/
noncomputable def ref17_Few_code : Code := Try.f92.body.getD .skip
noncomputable def ref17_Few_fs : List (Nat × Ctr) := [(21, ref15_Few_c)]
noncomputable def ref17_Few_is : List (Nat × List PI) := []
theorem ref17_Few_fsok : FsOK Try.prog ref17_Few_fs := ⟨ref15_Few_ok, trivial⟩
theorem ref17_Few_isok : IsOK Try.prog ref17_Few_is := trivial
def ref17_Few_fz : List (Nat × List Nat) := []
noncomputable def ref17_Few_ls0 : List (Nat × LCtr) := []
theorem ref17_Few_lsok0 : LsOK Try.prog Try.f92.ntmps ref17_Few_code ref17_Few_ls0 := trivial
noncomputable def ref17_Few_l8_step (g : ((Int × (List V_easementref08_Pair) × (List V_api_Type) × (List V_api_Slot) × Unit) × Int × Unit) → Option ((Bool × (Int × (List V_easementref08_Pair) × (List V_api_Type) × (List V_api_Slot) × Unit) × Unit) ⊕ (((Int × (List V_easementref08_Pair) × (List V_api_Type) × (List V_api_Slot) × Unit) × Unit) ⊕ Empty))) (x : ((Int × (List V_easementref08_Pair) × (List V_api_Type) × (List V_api_Slot) × Unit) × Int × Unit)) : Option ((Bool × (Int × (List V_easementref08_Pair) × (List V_api_Type) × (List V_api_Slot) × Unit) × Unit) ⊕ (((Int × (List V_easementref08_Pair) × (List V_api_Type) × (List V_api_Slot) × Unit) × Unit) ⊕ Empty)) :=
  cond (decide (x.2.1 < (x.1.2.2.1.length : Int)))
    (ck (inB x.2.1 (x.1.2.2.1.length)) <|
    Option.bind (ref15_Few (((rdL t_api_Type x.1.2.2.1 x.2.1).1, ()), (20 : Int), ())) fun y2 =>
    cond (!y2.1)
      (some (.inl (false, (x.1.1, x.1.2.1, x.1.2.2.1, x.1.2.2.2.1, ()), ())))
      (g ((x.1.1, x.1.2.1, x.1.2.2.1, x.1.2.2.2.1, ()), IntKind.i64.wrap (x.2.1 + (1 : Int)), ())))
    (some (.inr (.inl ((x.1.1, x.1.2.1, x.1.2.2.1, x.1.2.2.2.1, ()), ()))))
noncomputable def ref17_Few_l8 : LCtr := ⟨[1, 3], (.cons (.ptr (.cons (.val (.int .i64)) (.cons (.val (.lst t_easementref08_Pair)) (.cons (.val (.lst t_api_Type)) (.cons (.val (.lst t_api_Slot)) .nil))))) (.cons (.val (.int .i64)) .nil)), [some 0], [], [⟨.ret, [2, 1], (.cons (.val .bool) (.cons (.ptr (.cons (.val (.int .i64)) (.cons (.val (.lst t_easementref08_Pair)) (.cons (.val (.lst t_api_Type)) (.cons (.val (.lst t_api_Slot)) .nil))))) .nil)), [some 0]⟩, ⟨(.exit 0), [1], (.cons (.ptr (.cons (.val (.int .i64)) (.cons (.val (.lst t_easementref08_Pair)) (.cons (.val (.lst t_api_Type)) (.cons (.val (.lst t_api_Slot)) .nil))))) .nil), [some 0]⟩], [], lim ref17_Few_l8_step⟩
noncomputable def ref17_Few_ls1 : List (Nat × LCtr) := (8, ref17_Few_l8) :: ref17_Few_ls0
theorem ref17_Few_lsok1 : LsOK Try.prog Try.f92.ntmps ref17_Few_code ref17_Few_ls1 :=
  loop_at (L := ref17_Few_l8) (fz := ref17_Few_fz) ref17_Few_fsok ref17_Few_isok ref17_Few_lsok0 (by kernel_rfl) (by kernel_rfl) (by kernel_rfl) (step := ref17_Few_l8_step) rfl (fun g x => by kernel_rfl)
noncomputable def ref17_Few (x : (V_api_Sig × Unit)) : Option (Bool × Unit) :=
  cond (!(cond (decide ((x.1.2.1.length : Int) > (20 : Int))) true (decide ((x.1.2.2.1.length : Int) > (20 : Int)))))
    (Option.bind (ref15_Few ((x.1.2.2.2.1, ()), (20 : Int), ())) fun y1 =>
    cond (!y1.1)
      (some (false, ()))
      (Option.bind (lim ref17_Few_l8_step ((x.1.1, x.1.2.1, x.1.2.2.1, x.1.2.2.2.1, ()), (0 : Int), ())) fun y3 => out2 y3
        (fun z4 =>
          some (z4.1, ()))
        (fun z5 =>
          some (true, ()))))
    (some (false, ()))
noncomputable def ref17_Few_c : Ctr := ⟨(.cons t_api_Sig .nil), (.cons .bool .nil), ref17_Few, none⟩
theorem ref17_Few_ok : CtrOK Try.prog 92 ref17_Few_c :=
  fun_at (fz := ref17_Few_fz) ref17_Few_fsok ref17_Few_isok Try.func92 (by kernel_rfl) (c := ref17_Few_code) (by kernel_rfl) ref17_Few_lsok1 (by kernel_rfl) (fun x => by kernel_rfl)
/-! ### easement/easementref20.Small: function 53 -/
noncomputable def ref20_Small_code : Code := Try.f53.body.getD .skip
noncomputable def ref20_Small_fs : List (Nat × Ctr) := [(21, ref15_Few_c), (92, ref17_Few_c)]
noncomputable def ref20_Small_is : List (Nat × List PI) := []
theorem ref20_Small_fsok : FsOK Try.prog ref20_Small_fs := ⟨ref15_Few_ok, ref17_Few_ok, trivial⟩
theorem ref20_Small_isok : IsOK Try.prog ref20_Small_is := trivial
def ref20_Small_fz : List (Nat × List Nat) := []
noncomputable def ref20_Small_ls0 : List (Nat × LCtr) := []
theorem ref20_Small_lsok0 : LsOK Try.prog Try.f53.ntmps ref20_Small_code ref20_Small_ls0 := trivial
noncomputable def ref20_Small_l8_step (g : ((Int × Int × (List V_easementref08_Pair) × (List V_api_Type) × (List V_api_Slot) × (List V_api_Sig) × (List V_api_Block) × Unit) × Int × Unit) → Option ((Bool × (Int × Int × (List V_easementref08_Pair) × (List V_api_Type) × (List V_api_Slot) × (List V_api_Sig) × (List V_api_Block) × Unit) × Unit) ⊕ (((Int × Int × (List V_easementref08_Pair) × (List V_api_Type) × (List V_api_Slot) × (List V_api_Sig) × (List V_api_Block) × Unit) × Unit) ⊕ Empty))) (x : ((Int × Int × (List V_easementref08_Pair) × (List V_api_Type) × (List V_api_Slot) × (List V_api_Sig) × (List V_api_Block) × Unit) × Int × Unit)) : Option ((Bool × (Int × Int × (List V_easementref08_Pair) × (List V_api_Type) × (List V_api_Slot) × (List V_api_Sig) × (List V_api_Block) × Unit) × Unit) ⊕ (((Int × Int × (List V_easementref08_Pair) × (List V_api_Type) × (List V_api_Slot) × (List V_api_Sig) × (List V_api_Block) × Unit) × Unit) ⊕ Empty)) :=
  cond (decide (x.2.1 < (x.1.2.2.2.1.length : Int)))
    (ck (inB x.2.1 (x.1.2.2.2.1.length)) <|
    Option.bind (ref15_Few (((rdL t_api_Type x.1.2.2.2.1 x.2.1).1, ()), (20 : Int), ())) fun y2 =>
    cond (!y2.1)
      (some (.inl (false, (x.1.1, x.1.2.1, x.1.2.2.1, x.1.2.2.2.1, x.1.2.2.2.2.1, x.1.2.2.2.2.2.1, x.1.2.2.2.2.2.2.1, ()), ())))
      (g ((x.1.1, x.1.2.1, x.1.2.2.1, x.1.2.2.2.1, x.1.2.2.2.2.1, x.1.2.2.2.2.2.1, x.1.2.2.2.2.2.2.1, ()), IntKind.i64.wrap (x.2.1 + (1 : Int)), ())))
    (some (.inr (.inl ((x.1.1, x.1.2.1, x.1.2.2.1, x.1.2.2.2.1, x.1.2.2.2.2.1, x.1.2.2.2.2.2.1, x.1.2.2.2.2.2.2.1, ()), ()))))
noncomputable def ref20_Small_l8 : LCtr := ⟨[1, 3], (.cons (.ptr (.cons (.val (.int .i64)) (.cons (.val (.int .i64)) (.cons (.val (.lst t_easementref08_Pair)) (.cons (.val (.lst t_api_Type)) (.cons (.val (.lst t_api_Slot)) (.cons (.val (.lst t_api_Sig)) (.cons (.val (.lst t_api_Block)) .nil)))))))) (.cons (.val (.int .i64)) .nil)), [some 0], [1], [⟨.ret, [2, 1], (.cons (.val .bool) (.cons (.ptr (.cons (.val (.int .i64)) (.cons (.val (.int .i64)) (.cons (.val (.lst t_easementref08_Pair)) (.cons (.val (.lst t_api_Type)) (.cons (.val (.lst t_api_Slot)) (.cons (.val (.lst t_api_Sig)) (.cons (.val (.lst t_api_Block)) .nil)))))))) .nil)), [some 0]⟩, ⟨(.exit 0), [1], (.cons (.ptr (.cons (.val (.int .i64)) (.cons (.val (.int .i64)) (.cons (.val (.lst t_easementref08_Pair)) (.cons (.val (.lst t_api_Type)) (.cons (.val (.lst t_api_Slot)) (.cons (.val (.lst t_api_Sig)) (.cons (.val (.lst t_api_Block)) .nil)))))))) .nil), [some 0]⟩], [], lim ref20_Small_l8_step⟩
noncomputable def ref20_Small_ls1 : List (Nat × LCtr) := (8, ref20_Small_l8) :: ref20_Small_ls0
theorem ref20_Small_lsok1 : LsOK Try.prog Try.f53.ntmps ref20_Small_code ref20_Small_ls1 :=
  loop_at (L := ref20_Small_l8) (fz := ref20_Small_fz) ref20_Small_fsok ref20_Small_isok ref20_Small_lsok0 (by kernel_rfl) (by kernel_rfl) (by kernel_rfl) (step := ref20_Small_l8_step) rfl (fun g x => by kernel_rfl)
noncomputable def ref20_Small_l18_step (g : ((Int × Int × (List V_easementref08_Pair) × (List V_api_Type) × (List V_api_Slot) × (List V_api_Sig) × (List V_api_Block) × Unit) × Int × Unit) → Option ((Bool × (Int × Int × (List V_easementref08_Pair) × (List V_api_Type) × (List V_api_Slot) × (List V_api_Sig) × (List V_api_Block) × Unit) × Unit) ⊕ (((Int × Int × (List V_easementref08_Pair) × (List V_api_Type) × (List V_api_Slot) × (List V_api_Sig) × (List V_api_Block) × Unit) × Unit) ⊕ Empty))) (x : ((Int × Int × (List V_easementref08_Pair) × (List V_api_Type) × (List V_api_Slot) × (List V_api_Sig) × (List V_api_Block) × Unit) × Int × Unit)) : Option ((Bool × (Int × Int × (List V_easementref08_Pair) × (List V_api_Type) × (List V_api_Slot) × (List V_api_Sig) × (List V_api_Block) × Unit) × Unit) ⊕ (((Int × Int × (List V_easementref08_Pair) × (List V_api_Type) × (List V_api_Slot) × (List V_api_Sig) × (List V_api_Block) × Unit) × Unit) ⊕ Empty)) :=
  cond (decide (x.2.1 < (x.1.2.2.2.2.2.1.length : Int)))
    (ck (inB x.2.1 (x.1.2.2.2.2.2.1.length)) <|
    let v1 := rdL t_api_Sig x.1.2.2.2.2.2.1 x.2.1
    Option.bind (ref17_Few ((v1.1, v1.2.1, v1.2.2.1, v1.2.2.2.1, ()), ())) fun y6 =>
    cond (!y6.1)
      (some (.inl (false, (x.1.1, x.1.2.1, x.1.2.2.1, x.1.2.2.2.1, x.1.2.2.2.2.1, x.1.2.2.2.2.2.1, x.1.2.2.2.2.2.2.1, ()), ())))
      (g ((x.1.1, x.1.2.1, x.1.2.2.1, x.1.2.2.2.1, x.1.2.2.2.2.1, x.1.2.2.2.2.2.1, x.1.2.2.2.2.2.2.1, ()), IntKind.i64.wrap (x.2.1 + (1 : Int)), ())))
    (some (.inr (.inl ((x.1.1, x.1.2.1, x.1.2.2.1, x.1.2.2.2.1, x.1.2.2.2.2.1, x.1.2.2.2.2.2.1, x.1.2.2.2.2.2.2.1, ()), ()))))
noncomputable def ref20_Small_l18 : LCtr := ⟨[1, 4], (.cons (.ptr (.cons (.val (.int .i64)) (.cons (.val (.int .i64)) (.cons (.val (.lst t_easementref08_Pair)) (.cons (.val (.lst t_api_Type)) (.cons (.val (.lst t_api_Slot)) (.cons (.val (.lst t_api_Sig)) (.cons (.val (.lst t_api_Block)) .nil)))))))) (.cons (.val (.int .i64)) .nil)), [some 0], [1], [⟨.ret, [2, 1], (.cons (.val .bool) (.cons (.ptr (.cons (.val (.int .i64)) (.cons (.val (.int .i64)) (.cons (.val (.lst t_easementref08_Pair)) (.cons (.val (.lst t_api_Type)) (.cons (.val (.lst t_api_Slot)) (.cons (.val (.lst t_api_Sig)) (.cons (.val (.lst t_api_Block)) .nil)))))))) .nil)), [some 0]⟩, ⟨(.exit 2), [1], (.cons (.ptr (.cons (.val (.int .i64)) (.cons (.val (.int .i64)) (.cons (.val (.lst t_easementref08_Pair)) (.cons (.val (.lst t_api_Type)) (.cons (.val (.lst t_api_Slot)) (.cons (.val (.lst t_api_Sig)) (.cons (.val (.lst t_api_Block)) .nil)))))))) .nil), [some 0]⟩], [], lim ref20_Small_l18_step⟩
noncomputable def ref20_Small_ls2 : List (Nat × LCtr) := (18, ref20_Small_l18) :: ref20_Small_ls1
theorem ref20_Small_lsok2 : LsOK Try.prog Try.f53.ntmps ref20_Small_code ref20_Small_ls2 :=
  loop_at (L := ref20_Small_l18) (fz := ref20_Small_fz) ref20_Small_fsok ref20_Small_isok ref20_Small_lsok1 (by kernel_rfl) (by kernel_rfl) (by kernel_rfl) (step := ref20_Small_l18_step) rfl (fun g x => by kernel_rfl)
noncomputable def ref20_Small_l30_step (g : ((Int × Int × (List V_easementref08_Pair) × (List V_api_Type) × (List V_api_Slot) × (List V_api_Sig) × (List V_api_Block) × Unit) × Int × Int × Unit) → Option ((Bool × (Int × Int × (List V_easementref08_Pair) × (List V_api_Type) × (List V_api_Slot) × (List V_api_Sig) × (List V_api_Block) × Unit) × Unit) ⊕ ((Int × (Int × Int × (List V_easementref08_Pair) × (List V_api_Type) × (List V_api_Slot) × (List V_api_Sig) × (List V_api_Block) × Unit) × Unit) ⊕ Empty))) (x : ((Int × Int × (List V_easementref08_Pair) × (List V_api_Type) × (List V_api_Slot) × (List V_api_Sig) × (List V_api_Block) × Unit) × Int × Int × Unit)) : Option ((Bool × (Int × Int × (List V_easementref08_Pair) × (List V_api_Type) × (List V_api_Slot) × (List V_api_Sig) × (List V_api_Block) × Unit) × Unit) ⊕ ((Int × (Int × Int × (List V_easementref08_Pair) × (List V_api_Type) × (List V_api_Slot) × (List V_api_Sig) × (List V_api_Block) × Unit) × Unit) ⊕ Empty)) :=
  cond (decide (x.2.2.1 < (x.1.2.2.2.2.2.2.1.length : Int)))
    (ck (inB x.2.2.1 (x.1.2.2.2.2.2.2.1.length)) <|
    ck (inB x.2.2.1 (x.1.2.2.2.2.2.2.1.length)) <|
    let v1 := (rdL t_api_Block x.1.2.2.2.2.2.2.1 x.2.2.1).2.2.2.2
    cond (cond (cond (decide ((v1.1.length : Int) > (20 : Int))) true (decide ((v1.2.1.length : Int) > (20 : Int)))) true (decide ((v1.2.2.1.length : Int) > (20 : Int))))
      (some (.inl (false, (x.1.1, x.1.2.1, x.1.2.2.1, x.1.2.2.2.1, x.1.2.2.2.2.1, x.1.2.2.2.2.2.1, x.1.2.2.2.2.2.2.1, ()), ())))
      (g ((x.1.1, x.1.2.1, x.1.2.2.1, x.1.2.2.2.1, x.1.2.2.2.2.1, x.1.2.2.2.2.2.1, x.1.2.2.2.2.2.2.1, ()), IntKind.i64.wrap (x.2.1 + ((rdL t_api_Block x.1.2.2.2.2.2.2.1 x.2.2.1).1.length : Int)), IntKind.i64.wrap (x.2.2.1 + (1 : Int)), ())))
    (some (.inr (.inl (x.2.1, (x.1.1, x.1.2.1, x.1.2.2.1, x.1.2.2.2.1, x.1.2.2.2.2.1, x.1.2.2.2.2.2.1, x.1.2.2.2.2.2.2.1, ()), ()))))
noncomputable def ref20_Small_l30 : LCtr := ⟨[1, 5, 6], (.cons (.ptr (.cons (.val (.int .i64)) (.cons (.val (.int .i64)) (.cons (.val (.lst t_easementref08_Pair)) (.cons (.val (.lst t_api_Type)) (.cons (.val (.lst t_api_Slot)) (.cons (.val (.lst t_api_Sig)) (.cons (.val (.lst t_api_Block)) .nil)))))))) (.cons (.val (.int .i64)) (.cons (.val (.int .i64)) .nil))), [some 0], [], [⟨.ret, [2, 1], (.cons (.val .bool) (.cons (.ptr (.cons (.val (.int .i64)) (.cons (.val (.int .i64)) (.cons (.val (.lst t_easementref08_Pair)) (.cons (.val (.lst t_api_Type)) (.cons (.val (.lst t_api_Slot)) (.cons (.val (.lst t_api_Sig)) (.cons (.val (.lst t_api_Block)) .nil)))))))) .nil)), [some 0]⟩, ⟨(.exit 4), [5, 1], (.cons (.val (.int .i64)) (.cons (.ptr (.cons (.val (.int .i64)) (.cons (.val (.int .i64)) (.cons (.val (.lst t_easementref08_Pair)) (.cons (.val (.lst t_api_Type)) (.cons (.val (.lst t_api_Slot)) (.cons (.val (.lst t_api_Sig)) (.cons (.val (.lst t_api_Block)) .nil)))))))) .nil)), [some 0]⟩], [], lim ref20_Small_l30_step⟩
noncomputable def ref20_Small_ls3 : List (Nat × LCtr) := (30, ref20_Small_l30) :: ref20_Small_ls2
theorem ref20_Small_lsok3 : LsOK Try.prog Try.f53.ntmps ref20_Small_code ref20_Small_ls3 :=
  loop_at (L := ref20_Small_l30) (fz := ref20_Small_fz) ref20_Small_fsok ref20_Small_isok ref20_Small_lsok2 (by kernel_rfl) (by kernel_rfl) (by kernel_rfl) (step := ref20_Small_l30_step) rfl (fun g x => by kernel_rfl)
noncomputable def ref20_Small (x : (V_api_Body × Unit)) : Option (Bool × Unit) :=
  cond (!(cond (cond (cond (decide ((x.1.2.2.1.length : Int) > (20 : Int))) true (decide ((x.1.2.2.2.1.length : Int) > (10 : Int)))) true (decide ((x.1.2.2.2.2.2.1.length : Int) > (4 : Int)))) true (decide ((x.1.2.2.2.2.2.2.1.length : Int) > (8 : Int)))))
    (Option.bind (ref15_Few ((x.1.2.2.2.2.1, ()), (20 : Int), ())) fun y1 =>
    cond (!y1.1)
      (some (false, ()))
      (Option.bind (lim ref20_Small_l8_step ((x.1.1, x.1.2.1, x.1.2.2.1, x.1.2.2.2.1, x.1.2.2.2.2.1, x.1.2.2.2.2.2.1, x.1.2.2.2.2.2.2.1, ()), (0 : Int), ())) fun y3 => out2 y3
        (fun z4 =>
          some (z4.1, ()))
        (fun z5 =>
          Option.bind (lim ref20_Small_l18_step ((z5.1.1, z5.1.2.1, z5.1.2.2.1, z5.1.2.2.2.1, z5.1.2.2.2.2.1, z5.1.2.2.2.2.2.1, z5.1.2.2.2.2.2.2.1, ()), (0 : Int), ())) fun y7 => out2 y7
            (fun z8 =>
              some (z8.1, ()))
            (fun z9 =>
              Option.bind (lim ref20_Small_l30_step ((z9.1.1, z9.1.2.1, z9.1.2.2.1, z9.1.2.2.2.1, z9.1.2.2.2.2.1, z9.1.2.2.2.2.2.1, z9.1.2.2.2.2.2.2.1, ()), (0 : Int), (0 : Int), ())) fun y10 => out2 y10
                (fun z11 =>
                  some (z11.1, ()))
                (fun z12 =>
                  some (decide (z12.1 ≤ (24 : Int)), ()))))))
    (some (false, ()))
noncomputable def ref20_Small_c : Ctr := ⟨(.cons t_api_Body .nil), (.cons .bool .nil), ref20_Small, none⟩
theorem ref20_Small_ok : CtrOK Try.prog 53 ref20_Small_c :=
  fun_at (fz := ref20_Small_fz) ref20_Small_fsok ref20_Small_isok Try.func53 (by kernel_rfl) (c := ref20_Small_code) (by kernel_rfl) ref20_Small_lsok3 (by kernel_rfl) (fun x => by kernel_rfl)
/-! ### easement/easementref21.head: function 96 -/
noncomputable def ref21_head_code : Code := Try.f96.body.getD .skip
noncomputable def ref21_head_fs : List (Nat × Ctr) := []
noncomputable def ref21_head_is : List (Nat × List PI) := []
theorem ref21_head_fsok : FsOK Try.prog ref21_head_fs := trivial
theorem ref21_head_isok : IsOK Try.prog ref21_head_is := trivial
def ref21_head_fz : List (Nat × List Nat) := []
noncomputable def ref21_head_ls0 : List (Nat × LCtr) := []
theorem ref21_head_lsok0 : LsOK Try.prog Try.f96.ntmps ref21_head_code ref21_head_ls0 := trivial
noncomputable def ref21_head_l16_step (g : ((Int × Int × (List V_easementref08_Pair) × (List V_api_Type) × (List V_api_Slot) × (List V_api_Sig) × (List V_api_Block) × Unit) × (Int × Int × Int × Int × Unit) × Int × Unit) → Option (((Int × Int × (List V_easementref08_Pair) × (List V_api_Type) × (List V_api_Slot) × (List V_api_Sig) × (List V_api_Block) × Unit) × (Int × Int × Int × Int × Unit) × Unit) ⊕ (((Int × Int × (List V_easementref08_Pair) × (List V_api_Type) × (List V_api_Slot) × (List V_api_Sig) × (List V_api_Block) × Unit) × (Int × Int × Int × Int × Unit) × Unit) ⊕ Empty))) (x : ((Int × Int × (List V_easementref08_Pair) × (List V_api_Type) × (List V_api_Slot) × (List V_api_Sig) × (List V_api_Block) × Unit) × (Int × Int × Int × Int × Unit) × Int × Unit)) : Option (((Int × Int × (List V_easementref08_Pair) × (List V_api_Type) × (List V_api_Slot) × (List V_api_Sig) × (List V_api_Block) × Unit) × (Int × Int × Int × Int × Unit) × Unit) ⊕ (((Int × Int × (List V_easementref08_Pair) × (List V_api_Type) × (List V_api_Slot) × (List V_api_Sig) × (List V_api_Block) × Unit) × (Int × Int × Int × Int × Unit) × Unit) ⊕ Empty)) :=
  cond (decide (x.2.2.1 < (x.1.2.2.1.length : Int)))
    (ck (inB x.2.2.1 (x.1.2.2.1.length)) <|
    let v1 := rdL t_easementref08_Pair x.1.2.2.1 x.2.2.1
    cond (cond (cond (cond (decide (v1.1 < (0 : Int))) true (decide (v1.1 ≥ x.1.1))) true (decide (v1.2.1 < (0 : Int)))) true (decide (v1.2.1 ≥ x.1.1)))
      (some (.inl ((x.1.1, x.1.2.1, x.1.2.2.1, x.1.2.2.2.1, x.1.2.2.2.2.1, x.1.2.2.2.2.2.1, x.1.2.2.2.2.2.2.1, ()), ((7 : Int), (1 : Int), x.2.2.1, (0 : Int), ()), ())))
      (g ((x.1.1, x.1.2.1, x.1.2.2.1, x.1.2.2.2.1, x.1.2.2.2.2.1, x.1.2.2.2.2.2.1, x.1.2.2.2.2.2.2.1, ()), (x.2.1.1, x.2.1.2.1, x.2.1.2.2.1, x.2.1.2.2.2.1, ()), IntKind.i64.wrap (x.2.2.1 + (1 : Int)), ())))
    (some (.inr (.inl ((x.1.1, x.1.2.1, x.1.2.2.1, x.1.2.2.2.1, x.1.2.2.2.2.1, x.1.2.2.2.2.2.1, x.1.2.2.2.2.2.2.1, ()), (x.2.1.1, x.2.1.2.1, x.2.1.2.2.1, x.2.1.2.2.2.1, ()), ()))))
noncomputable def ref21_head_l16 : LCtr := ⟨[1, 2, 3], (.cons (.ptr (.cons (.val (.int .i64)) (.cons (.val (.int .i64)) (.cons (.val (.lst t_easementref08_Pair)) (.cons (.val (.lst t_api_Type)) (.cons (.val (.lst t_api_Slot)) (.cons (.val (.lst t_api_Sig)) (.cons (.val (.lst t_api_Block)) .nil)))))))) (.cons (.ptr (.cons (.val (.int .i64)) (.cons (.val (.int .i64)) (.cons (.val (.int .i64)) (.cons (.val (.int .i64)) .nil))))) (.cons (.val (.int .i64)) .nil))), [some 0, some 1], [2], [⟨.ret, [1, 2], (.cons (.ptr (.cons (.val (.int .i64)) (.cons (.val (.int .i64)) (.cons (.val (.lst t_easementref08_Pair)) (.cons (.val (.lst t_api_Type)) (.cons (.val (.lst t_api_Slot)) (.cons (.val (.lst t_api_Sig)) (.cons (.val (.lst t_api_Block)) .nil)))))))) (.cons (.ptr (.cons (.val (.int .i64)) (.cons (.val (.int .i64)) (.cons (.val (.int .i64)) (.cons (.val (.int .i64)) .nil))))) .nil)), [some 0, some 1]⟩, ⟨(.exit 0), [1, 2], (.cons (.ptr (.cons (.val (.int .i64)) (.cons (.val (.int .i64)) (.cons (.val (.lst t_easementref08_Pair)) (.cons (.val (.lst t_api_Type)) (.cons (.val (.lst t_api_Slot)) (.cons (.val (.lst t_api_Sig)) (.cons (.val (.lst t_api_Block)) .nil)))))))) (.cons (.ptr (.cons (.val (.int .i64)) (.cons (.val (.int .i64)) (.cons (.val (.int .i64)) (.cons (.val (.int .i64)) .nil))))) .nil)), [some 0, some 1]⟩], [], lim ref21_head_l16_step⟩
noncomputable def ref21_head_ls1 : List (Nat × LCtr) := (16, ref21_head_l16) :: ref21_head_ls0
theorem ref21_head_lsok1 : LsOK Try.prog Try.f96.ntmps ref21_head_code ref21_head_ls1 :=
  loop_at (L := ref21_head_l16) (fz := ref21_head_fz) ref21_head_fsok ref21_head_isok ref21_head_lsok0 (by kernel_rfl) (by kernel_rfl) (by kernel_rfl) (step := ref21_head_l16_step) rfl (fun g x => by kernel_rfl)
noncomputable def ref21_head (x : (V_api_Body × Unit)) : Option (V_valid_Fault × Unit) :=
  cond (cond (decide (x.1.1 < (1 : Int))) true (decide (x.1.2.1 < x.1.1)))
    (some (((7 : Int), (0 : Int), (0 : Int), (0 : Int), ()), ()))
    (cond (decide (x.1.2.1 > (65536 : Int)))
      (some (((6 : Int), (0 : Int), (0 : Int), (0 : Int), ()), ()))
      (cond (decide ((x.1.2.2.1.length : Int) > (65536 : Int)))
        (some (((6 : Int), (1 : Int), (0 : Int), (0 : Int), ()), ()))
        (Option.bind (lim ref21_head_l16_step ((x.1.1, x.1.2.1, x.1.2.2.1, x.1.2.2.2.1, x.1.2.2.2.2.1, x.1.2.2.2.2.2.1, x.1.2.2.2.2.2.2.1, ()), ((0 : Int), (0 : Int), (0 : Int), (0 : Int), ()), (0 : Int), ())) fun y1 => out2 y1
          (fun z2 =>
            some ((z2.2.1.1, z2.2.1.2.1, z2.2.1.2.2.1, z2.2.1.2.2.2.1, ()), ()))
          (fun z3 =>
            some (((0 : Int), (0 : Int), (0 : Int), (0 : Int), ()), ())))))
noncomputable def ref21_head_c : Ctr := ⟨(.cons t_api_Body .nil), (.cons t_valid_Fault .nil), ref21_head, none⟩
theorem ref21_head_ok : CtrOK Try.prog 96 ref21_head_c :=
  fun_at (fz := ref21_head_fz) ref21_head_fsok ref21_head_isok Try.func96 (by kernel_rfl) (c := ref21_head_code) (by kernel_rfl) ref21_head_lsok1 (by kernel_rfl) (fun x => by kernel_rfl)
/-! ### easement/easementref15.Check: function 41 -/
noncomputable def ref15_Check_code : Code := Try.f41.body.getD .skip
noncomputable def ref15_Check_fs : List (Nat × Ctr) := []
noncomputable def ref15_Check_is : List (Nat × List PI) := []
theorem ref15_Check_fsok : FsOK Try.prog ref15_Check_fs := trivial
theorem ref15_Check_isok : IsOK Try.prog ref15_Check_is := trivial
def ref15_Check_fz : List (Nat × List Nat) := []
noncomputable def ref15_Check_ls0 : List (Nat × LCtr) := []
theorem ref15_Check_lsok0 : LsOK Try.prog Try.f41.ntmps ref15_Check_code ref15_Check_ls0 := trivial
noncomputable def ref15_Check_l8_step (g : (((List V_api_Slot) × Unit) × Int × Int × Unit) → Option ((Int × ((List V_api_Slot) × Unit) × Unit) ⊕ ((((List V_api_Slot) × Unit) × Unit) ⊕ Empty))) (x : (((List V_api_Slot) × Unit) × Int × Int × Unit)) : Option ((Int × ((List V_api_Slot) × Unit) × Unit) ⊕ ((((List V_api_Slot) × Unit) × Unit) ⊕ Empty)) :=
  cond (decide (x.2.2.1 < (x.1.1.length : Int)))
    (ck (inB x.2.2.1 (x.1.1.length)) <|
    let v1 := decide ((rdL t_api_Slot x.1.1 x.2.2.1).1 < (0 : Int))
    ck ((inB x.2.2.1 (x.1.1.length)) || !(!v1)) <|
    cond (cond v1 true (decide ((rdL t_api_Slot x.1.1 x.2.2.1).1 ≥ x.2.1)))
      (some (.inl ((7 : Int), (x.1.1, ()), ())))
      (g ((x.1.1, ()), x.2.1, IntKind.i64.wrap (x.2.2.1 + (1 : Int)), ())))
    (some (.inr (.inl ((x.1.1, ()), ()))))
noncomputable def ref15_Check_l8 : LCtr := ⟨[2, 1, 5], (.cons (.ptr (.cons (.val (.lst t_api_Slot)) .nil)) (.cons (.val (.int .i64)) (.cons (.val (.int .i64)) .nil))), [some 0], [], [⟨.ret, [4, 2], (.cons (.val (.int .i64)) (.cons (.ptr (.cons (.val (.lst t_api_Slot)) .nil)) .nil)), [some 0]⟩, ⟨(.exit 0), [2], (.cons (.ptr (.cons (.val (.lst t_api_Slot)) .nil)) .nil), [some 0]⟩], [], lim ref15_Check_l8_step⟩
noncomputable def ref15_Check_ls1 : List (Nat × LCtr) := (8, ref15_Check_l8) :: ref15_Check_ls0
theorem ref15_Check_lsok1 : LsOK Try.prog Try.f41.ntmps ref15_Check_code ref15_Check_ls1 :=
  loop_at (L := ref15_Check_l8) (fz := ref15_Check_fz) ref15_Check_fsok ref15_Check_isok ref15_Check_lsok0 (by kernel_rfl) (by kernel_rfl) (by kernel_rfl) (step := ref15_Check_l8_step) rfl (fun g x => by kernel_rfl)
noncomputable def ref15_Check (x : (V_api_Type × Int × Unit)) : Option (Int × Unit) :=
  cond (decide ((x.1.1.length : Int) > (16 : Int)))
    (some ((6 : Int), ()))
    (Option.bind (lim ref15_Check_l8_step ((x.1.1, ()), x.2.1, (0 : Int), ())) fun y1 => out2 y1
      (fun z2 =>
        some (z2.1, ()))
      (fun z3 =>
        some ((0 : Int), ())))
noncomputable def ref15_Check_c : Ctr := ⟨(.cons t_api_Type (.cons (.int .i64) .nil)), (.cons (.int .i64) .nil), ref15_Check, none⟩
theorem ref15_Check_ok : CtrOK Try.prog 41 ref15_Check_c :=
  fun_at (fz := ref15_Check_fz) ref15_Check_fsok ref15_Check_isok Try.func41 (by kernel_rfl) (c := ref15_Check_code) (by kernel_rfl) ref15_Check_lsok1 (by kernel_rfl) (fun x => by kernel_rfl)
/-! ### easement/easementref15.Shape: function 74 -/
noncomputable def ref15_Shape_code : Code := Try.f74.body.getD .skip
noncomputable def ref15_Shape_fs : List (Nat × Ctr) := []
noncomputable def ref15_Shape_is : List (Nat × List PI) := []
theorem ref15_Shape_fsok : FsOK Try.prog ref15_Shape_fs := trivial
theorem ref15_Shape_isok : IsOK Try.prog ref15_Shape_is := trivial
def ref15_Shape_fz : List (Nat × List Nat) := []
noncomputable def ref15_Shape_ls0 : List (Nat × LCtr) := []
theorem ref15_Shape_lsok0 : LsOK Try.prog Try.f74.ntmps ref15_Shape_code ref15_Shape_ls0 := trivial
noncomputable def ref15_Shape_l8_step (g : (((List V_api_Slot) × Unit) × ((List V_api_Slot) × Unit) × Int × Unit) → Option ((Bool × ((List V_api_Slot) × Unit) × ((List V_api_Slot) × Unit) × Unit) ⊕ ((((List V_api_Slot) × Unit) × ((List V_api_Slot) × Unit) × Unit) ⊕ Empty))) (x : (((List V_api_Slot) × Unit) × ((List V_api_Slot) × Unit) × Int × Unit)) : Option ((Bool × ((List V_api_Slot) × Unit) × ((List V_api_Slot) × Unit) × Unit) ⊕ ((((List V_api_Slot) × Unit) × ((List V_api_Slot) × Unit) × Unit) ⊕ Empty)) :=
  cond (decide (x.2.2.1 < (x.1.1.length : Int)))
    (ck (inB x.2.2.1 (x.1.1.length)) <|
    ck (inB x.2.2.1 (x.2.1.1.length)) <|
    cond (!((rdL t_api_Slot x.1.1 x.2.2.1).2.1 == (rdL t_api_Slot x.2.1.1 x.2.2.1).2.1))
      (some (.inl (false, (x.1.1, ()), (x.2.1.1, ()), ())))
      (g ((x.1.1, ()), (x.2.1.1, ()), IntKind.i64.wrap (x.2.2.1 + (1 : Int)), ())))
    (some (.inr (.inl ((x.1.1, ()), (x.2.1.1, ()), ()))))
noncomputable def ref15_Shape_l8 : LCtr := ⟨[2, 3, 5], (.cons (.ptr (.cons (.val (.lst t_api_Slot)) .nil)) (.cons (.ptr (.cons (.val (.lst t_api_Slot)) .nil)) (.cons (.val (.int .i64)) .nil))), [some 0, some 1], [], [⟨.ret, [4, 2, 3], (.cons (.val .bool) (.cons (.ptr (.cons (.val (.lst t_api_Slot)) .nil)) (.cons (.ptr (.cons (.val (.lst t_api_Slot)) .nil)) .nil))), [some 0, some 1]⟩, ⟨(.exit 0), [2, 3], (.cons (.ptr (.cons (.val (.lst t_api_Slot)) .nil)) (.cons (.ptr (.cons (.val (.lst t_api_Slot)) .nil)) .nil)), [some 0, some 1]⟩], [], lim ref15_Shape_l8_step⟩
noncomputable def ref15_Shape_ls1 : List (Nat × LCtr) := (8, ref15_Shape_l8) :: ref15_Shape_ls0
theorem ref15_Shape_lsok1 : LsOK Try.prog Try.f74.ntmps ref15_Shape_code ref15_Shape_ls1 :=
  loop_at (L := ref15_Shape_l8) (fz := ref15_Shape_fz) ref15_Shape_fsok ref15_Shape_isok ref15_Shape_lsok0 (by kernel_rfl) (by kernel_rfl) (by kernel_rfl) (step := ref15_Shape_l8_step) rfl (fun g x => by kernel_rfl)
noncomputable def ref15_Shape (x : (V_api_Type × V_api_Type × Unit)) : Option (Bool × Unit) :=
  cond ((x.1.1.length : Int) != (x.2.1.1.length : Int))
    (some (false, ()))
    (Option.bind (lim ref15_Shape_l8_step ((x.1.1, ()), (x.2.1.1, ()), (0 : Int), ())) fun y1 => out2 y1
      (fun z2 =>
        some (z2.1, ()))
      (fun z3 =>
        some (true, ())))
noncomputable def ref15_Shape_c : Ctr := ⟨(.cons t_api_Type (.cons t_api_Type .nil)), (.cons .bool .nil), ref15_Shape, none⟩
theorem ref15_Shape_ok : CtrOK Try.prog 74 ref15_Shape_c :=
  fun_at (fz := ref15_Shape_fz) ref15_Shape_fsok ref15_Shape_isok Try.func74 (by kernel_rfl) (c := ref15_Shape_code) (by kernel_rfl) ref15_Shape_lsok1 (by kernel_rfl) (fun x => by kernel_rfl)
/-! ### easement/easementref17.Check: function 115 -/
noncomputable def ref17_Check_code : Code := Try.f115.body.getD .skip
noncomputable def ref17_Check_fs : List (Nat × Ctr) := [(41, ref15_Check_c)]
noncomputable def ref17_Check_is : List (Nat × List PI) := []
theorem ref17_Check_fsok : FsOK Try.prog ref17_Check_fs := ⟨ref15_Check_ok, trivial⟩
theorem ref17_Check_isok : IsOK Try.prog ref17_Check_is := trivial
def ref17_Check_fz : List (Nat × List Nat) := []
noncomputable def ref17_Check_ls0 : List (Nat × LCtr) := []
theorem ref17_Check_lsok0 : LsOK Try.prog Try.f115.ntmps ref17_Check_code ref17_Check_ls0 := trivial
noncomputable def ref17_Check_l12_step (g : ((Int × (List V_easementref08_Pair) × (List V_api_Type) × (List V_api_Slot) × Unit) × Int × Unit) → Option ((Int × (Int × (List V_easementref08_Pair) × (List V_api_Type) × (List V_api_Slot) × Unit) × Unit) ⊕ (((Int × (List V_easementref08_Pair) × (List V_api_Type) × (List V_api_Slot) × Unit) × Unit) ⊕ Empty))) (x : ((Int × (List V_easementref08_Pair) × (List V_api_Type) × (List V_api_Slot) × Unit) × Int × Unit)) : Option ((Int × (Int × (List V_easementref08_Pair) × (List V_api_Type) × (List V_api_Slot) × Unit) × Unit) ⊕ (((Int × (List V_easementref08_Pair) × (List V_api_Type) × (List V_api_Slot) × Unit) × Unit) ⊕ Empty)) :=
  cond (decide (x.2.1 < (x.1.2.1.length : Int)))
    (ck (inB x.2.1 (x.1.2.1.length)) <|
    let v1 := rdL t_easementref08_Pair x.1.2.1 x.2.1
    cond (cond (cond (cond (decide (v1.1 < (0 : Int))) true (decide (v1.1 ≥ x.1.1))) true (decide (v1.2.1 < (0 : Int)))) true (decide (v1.2.1 ≥ x.1.1)))
      (some (.inl ((7 : Int), (x.1.1, x.1.2.1, x.1.2.2.1, x.1.2.2.2.1, ()), ())))
      (g ((x.1.1, x.1.2.1, x.1.2.2.1, x.1.2.2.2.1, ()), IntKind.i64.wrap (x.2.1 + (1 : Int)), ())))
    (some (.inr (.inl ((x.1.1, x.1.2.1, x.1.2.2.1, x.1.2.2.2.1, ()), ()))))
noncomputable def ref17_Check_l12 : LCtr := ⟨[1, 3], (.cons (.ptr (.cons (.val (.int .i64)) (.cons (.val (.lst t_easementref08_Pair)) (.cons (.val (.lst t_api_Type)) (.cons (.val (.lst t_api_Slot)) .nil))))) (.cons (.val (.int .i64)) .nil)), [some 0], [1], [⟨.ret, [2, 1], (.cons (.val (.int .i64)) (.cons (.ptr (.cons (.val (.int .i64)) (.cons (.val (.lst t_easementref08_Pair)) (.cons (.val (.lst t_api_Type)) (.cons (.val (.lst t_api_Slot)) .nil))))) .nil)), [some 0]⟩, ⟨(.exit 0), [1], (.cons (.ptr (.cons (.val (.int .i64)) (.cons (.val (.lst t_easementref08_Pair)) (.cons (.val (.lst t_api_Type)) (.cons (.val (.lst t_api_Slot)) .nil))))) .nil), [some 0]⟩], [], lim ref17_Check_l12_step⟩
noncomputable def ref17_Check_ls1 : List (Nat × LCtr) := (12, ref17_Check_l12) :: ref17_Check_ls0
theorem ref17_Check_lsok1 : LsOK Try.prog Try.f115.ntmps ref17_Check_code ref17_Check_ls1 :=
  loop_at (L := ref17_Check_l12) (fz := ref17_Check_fz) ref17_Check_fsok ref17_Check_isok ref17_Check_lsok0 (by kernel_rfl) (by kernel_rfl) (by kernel_rfl) (step := ref17_Check_l12_step) rfl (fun g x => by kernel_rfl)
noncomputable def ref17_Check_l24_step (g : ((Int × (List V_easementref08_Pair) × (List V_api_Type) × (List V_api_Slot) × Unit) × Int × Unit) → Option ((Int × (Int × (List V_easementref08_Pair) × (List V_api_Type) × (List V_api_Slot) × Unit) × Unit) ⊕ (((Int × (List V_easementref08_Pair) × (List V_api_Type) × (List V_api_Slot) × Unit) × Unit) ⊕ Empty))) (x : ((Int × (List V_easementref08_Pair) × (List V_api_Type) × (List V_api_Slot) × Unit) × Int × Unit)) : Option ((Int × (Int × (List V_easementref08_Pair) × (List V_api_Type) × (List V_api_Slot) × Unit) × Unit) ⊕ (((Int × (List V_easementref08_Pair) × (List V_api_Type) × (List V_api_Slot) × Unit) × Unit) ⊕ Empty)) :=
  cond (decide (x.2.1 < (x.1.2.2.1.length : Int)))
    (ck (inB x.2.1 (x.1.2.2.1.length)) <|
    Option.bind (ref15_Check (((rdL t_api_Type x.1.2.2.1 x.2.1).1, ()), x.1.1, ())) fun y4 =>
    cond (y4.1 != (0 : Int))
      (some (.inl (y4.1, (x.1.1, x.1.2.1, x.1.2.2.1, x.1.2.2.2.1, ()), ())))
      (g ((x.1.1, x.1.2.1, x.1.2.2.1, x.1.2.2.2.1, ()), IntKind.i64.wrap (x.2.1 + (1 : Int)), ())))
    (some (.inr (.inl ((x.1.1, x.1.2.1, x.1.2.2.1, x.1.2.2.2.1, ()), ()))))
noncomputable def ref17_Check_l24 : LCtr := ⟨[1, 5], (.cons (.ptr (.cons (.val (.int .i64)) (.cons (.val (.lst t_easementref08_Pair)) (.cons (.val (.lst t_api_Type)) (.cons (.val (.lst t_api_Slot)) .nil))))) (.cons (.val (.int .i64)) .nil)), [some 0], [1], [⟨.ret, [2, 1], (.cons (.val (.int .i64)) (.cons (.ptr (.cons (.val (.int .i64)) (.cons (.val (.lst t_easementref08_Pair)) (.cons (.val (.lst t_api_Type)) (.cons (.val (.lst t_api_Slot)) .nil))))) .nil)), [some 0]⟩, ⟨(.exit 2), [1], (.cons (.ptr (.cons (.val (.int .i64)) (.cons (.val (.lst t_easementref08_Pair)) (.cons (.val (.lst t_api_Type)) (.cons (.val (.lst t_api_Slot)) .nil))))) .nil), [some 0]⟩], [], lim ref17_Check_l24_step⟩
noncomputable def ref17_Check_ls2 : List (Nat × LCtr) := (24, ref17_Check_l24) :: ref17_Check_ls1
theorem ref17_Check_lsok2 : LsOK Try.prog Try.f115.ntmps ref17_Check_code ref17_Check_ls2 :=
  loop_at (L := ref17_Check_l24) (fz := ref17_Check_fz) ref17_Check_fsok ref17_Check_isok ref17_Check_lsok1 (by kernel_rfl) (by kernel_rfl) (by kernel_rfl) (step := ref17_Check_l24_step) rfl (fun g x => by kernel_rfl)
noncomputable def ref17_Check (x : (V_api_Sig × Unit)) : Option (Int × Unit) :=
  cond (decide (x.1.1 < (0 : Int)))
    (some ((7 : Int), ()))
    (cond (cond (cond (decide (x.1.1 > (16 : Int))) true (decide ((x.1.2.1.length : Int) > (16 : Int)))) true (decide ((x.1.2.2.1.length : Int) > (16 : Int))))
      (some ((6 : Int), ()))
      (Option.bind (lim ref17_Check_l12_step ((x.1.1, x.1.2.1, x.1.2.2.1, x.1.2.2.2.1, ()), (0 : Int), ())) fun y1 => out2 y1
        (fun z2 =>
          some (z2.1, ()))
        (fun z3 =>
          Option.bind (lim ref17_Check_l24_step ((z3.1.1, z3.1.2.1, z3.1.2.2.1, z3.1.2.2.2.1, ()), (0 : Int), ())) fun y5 => out2 y5
            (fun z6 =>
              some (z6.1, ()))
            (fun z7 =>
              Option.bind (ref15_Check ((z7.1.2.2.2.1, ()), z7.1.1, ())) fun y8 =>
              some (y8.1, ())))))
noncomputable def ref17_Check_c : Ctr := ⟨(.cons t_api_Sig .nil), (.cons (.int .i64) .nil), ref17_Check, none⟩
theorem ref17_Check_ok : CtrOK Try.prog 115 ref17_Check_c :=
  fun_at (fz := ref17_Check_fz) ref17_Check_fsok ref17_Check_isok Try.func115 (by kernel_rfl) (c := ref17_Check_code) (by kernel_rfl) ref17_Check_lsok2 (by kernel_rfl) (fun x => by kernel_rfl)
/-! ### easement/easementref21.types: function 97 -/
noncomputable def ref21_types_code : Code := Try.f97.body.getD .skip
noncomputable def ref21_types_fs : List (Nat × Ctr) := [(41, ref15_Check_c), (74, ref15_Shape_c), (115, ref17_Check_c)]
noncomputable def ref21_types_is : List (Nat × List PI) := []
theorem ref21_types_fsok : FsOK Try.prog ref21_types_fs := ⟨ref15_Check_ok, ref15_Shape_ok, ref17_Check_ok, trivial⟩
theorem ref21_types_isok : IsOK Try.prog ref21_types_is := trivial
def ref21_types_fz : List (Nat × List Nat) := []
noncomputable def ref21_types_ls0 : List (Nat × LCtr) := []
theorem ref21_types_lsok0 : LsOK Try.prog Try.f97.ntmps ref21_types_code ref21_types_ls0 := trivial
noncomputable def ref21_types_l12_step (g : ((Int × Int × (List V_easementref08_Pair) × (List V_api_Type) × (List V_api_Slot) × (List V_api_Sig) × (List V_api_Block) × Unit) × (Int × Int × Int × Int × Unit) × Int × Unit) → Option (((Int × Int × (List V_easementref08_Pair) × (List V_api_Type) × (List V_api_Slot) × (List V_api_Sig) × (List V_api_Block) × Unit) × (Int × Int × Int × Int × Unit) × Unit) ⊕ (((Int × Int × (List V_easementref08_Pair) × (List V_api_Type) × (List V_api_Slot) × (List V_api_Sig) × (List V_api_Block) × Unit) × (Int × Int × Int × Int × Unit) × Unit) ⊕ Empty))) (x : ((Int × Int × (List V_easementref08_Pair) × (List V_api_Type) × (List V_api_Slot) × (List V_api_Sig) × (List V_api_Block) × Unit) × (Int × Int × Int × Int × Unit) × Int × Unit)) : Option (((Int × Int × (List V_easementref08_Pair) × (List V_api_Type) × (List V_api_Slot) × (List V_api_Sig) × (List V_api_Block) × Unit) × (Int × Int × Int × Int × Unit) × Unit) ⊕ (((Int × Int × (List V_easementref08_Pair) × (List V_api_Type) × (List V_api_Slot) × (List V_api_Sig) × (List V_api_Block) × Unit) × (Int × Int × Int × Int × Unit) × Unit) ⊕ Empty)) :=
  cond (decide (x.2.2.1 < (x.1.2.2.2.1.length : Int)))
    (ck (inB x.2.2.1 (x.1.2.2.2.1.length)) <|
    Option.bind (ref15_Check (((rdL t_api_Type x.1.2.2.2.1 x.2.2.1).1, ()), x.1.2.1, ())) fun y1 =>
    cond (y1.1 != (0 : Int))
      (some (.inl ((x.1.1, x.1.2.1, x.1.2.2.1, x.1.2.2.2.1, x.1.2.2.2.2.1, x.1.2.2.2.2.2.1, x.1.2.2.2.2.2.2.1, ()), (y1.1, (2 : Int), x.2.2.1, (0 : Int), ()), ())))
      (g ((x.1.1, x.1.2.1, x.1.2.2.1, x.1.2.2.2.1, x.1.2.2.2.2.1, x.1.2.2.2.2.2.1, x.1.2.2.2.2.2.2.1, ()), (x.2.1.1, x.2.1.2.1, x.2.1.2.2.1, x.2.1.2.2.2.1, ()), IntKind.i64.wrap (x.2.2.1 + (1 : Int)), ())))
    (some (.inr (.inl ((x.1.1, x.1.2.1, x.1.2.2.1, x.1.2.2.2.1, x.1.2.2.2.2.1, x.1.2.2.2.2.2.1, x.1.2.2.2.2.2.2.1, ()), (x.2.1.1, x.2.1.2.1, x.2.1.2.2.1, x.2.1.2.2.2.1, ()), ()))))
noncomputable def ref21_types_l12 : LCtr := ⟨[1, 2, 3], (.cons (.ptr (.cons (.val (.int .i64)) (.cons (.val (.int .i64)) (.cons (.val (.lst t_easementref08_Pair)) (.cons (.val (.lst t_api_Type)) (.cons (.val (.lst t_api_Slot)) (.cons (.val (.lst t_api_Sig)) (.cons (.val (.lst t_api_Block)) .nil)))))))) (.cons (.ptr (.cons (.val (.int .i64)) (.cons (.val (.int .i64)) (.cons (.val (.int .i64)) (.cons (.val (.int .i64)) .nil))))) (.cons (.val (.int .i64)) .nil))), [some 0, some 1], [1, 2], [⟨.ret, [1, 2], (.cons (.ptr (.cons (.val (.int .i64)) (.cons (.val (.int .i64)) (.cons (.val (.lst t_easementref08_Pair)) (.cons (.val (.lst t_api_Type)) (.cons (.val (.lst t_api_Slot)) (.cons (.val (.lst t_api_Sig)) (.cons (.val (.lst t_api_Block)) .nil)))))))) (.cons (.ptr (.cons (.val (.int .i64)) (.cons (.val (.int .i64)) (.cons (.val (.int .i64)) (.cons (.val (.int .i64)) .nil))))) .nil)), [some 0, some 1]⟩, ⟨(.exit 0), [1, 2], (.cons (.ptr (.cons (.val (.int .i64)) (.cons (.val (.int .i64)) (.cons (.val (.lst t_easementref08_Pair)) (.cons (.val (.lst t_api_Type)) (.cons (.val (.lst t_api_Slot)) (.cons (.val (.lst t_api_Sig)) (.cons (.val (.lst t_api_Block)) .nil)))))))) (.cons (.ptr (.cons (.val (.int .i64)) (.cons (.val (.int .i64)) (.cons (.val (.int .i64)) (.cons (.val (.int .i64)) .nil))))) .nil)), [some 0, some 1]⟩], [], lim ref21_types_l12_step⟩
noncomputable def ref21_types_ls1 : List (Nat × LCtr) := (12, ref21_types_l12) :: ref21_types_ls0
theorem ref21_types_lsok1 : LsOK Try.prog Try.f97.ntmps ref21_types_code ref21_types_ls1 :=
  loop_at (L := ref21_types_l12) (fz := ref21_types_fz) ref21_types_fsok ref21_types_isok ref21_types_lsok0 (by kernel_rfl) (by kernel_rfl) (by kernel_rfl) (step := ref21_types_l12_step) rfl (fun g x => by kernel_rfl)
noncomputable def ref21_types_l38_step (g : ((Int × Int × (List V_easementref08_Pair) × (List V_api_Type) × (List V_api_Slot) × (List V_api_Sig) × (List V_api_Block) × Unit) × (Int × Int × Int × Int × Unit) × Int × Unit) → Option (((Int × Int × (List V_easementref08_Pair) × (List V_api_Type) × (List V_api_Slot) × (List V_api_Sig) × (List V_api_Block) × Unit) × (Int × Int × Int × Int × Unit) × Unit) ⊕ (((Int × Int × (List V_easementref08_Pair) × (List V_api_Type) × (List V_api_Slot) × (List V_api_Sig) × (List V_api_Block) × Unit) × (Int × Int × Int × Int × Unit) × Unit) ⊕ Empty))) (x : ((Int × Int × (List V_easementref08_Pair) × (List V_api_Type) × (List V_api_Slot) × (List V_api_Sig) × (List V_api_Block) × Unit) × (Int × Int × Int × Int × Unit) × Int × Unit)) : Option (((Int × Int × (List V_easementref08_Pair) × (List V_api_Type) × (List V_api_Slot) × (List V_api_Sig) × (List V_api_Block) × Unit) × (Int × Int × Int × Int × Unit) × Unit) ⊕ (((Int × Int × (List V_easementref08_Pair) × (List V_api_Type) × (List V_api_Slot) × (List V_api_Sig) × (List V_api_Block) × Unit) × (Int × Int × Int × Int × Unit) × Unit) ⊕ Empty)) :=
  cond (decide (x.2.2.1 < (x.1.2.2.2.2.2.1.length : Int)))
    (ck (inB x.2.2.1 (x.1.2.2.2.2.2.1.length)) <|
    let v1 := rdL t_api_Sig x.1.2.2.2.2.2.1 x.2.2.1
    Option.bind (ref17_Check ((v1.1, v1.2.1, v1.2.2.1, v1.2.2.2.1, ()), ())) fun y7 =>
    cond (y7.1 != (0 : Int))
      (some (.inl ((x.1.1, x.1.2.1, x.1.2.2.1, x.1.2.2.2.1, x.1.2.2.2.2.1, x.1.2.2.2.2.2.1, x.1.2.2.2.2.2.2.1, ()), (y7.1, (4 : Int), x.2.2.1, (0 : Int), ()), ())))
      (g ((x.1.1, x.1.2.1, x.1.2.2.1, x.1.2.2.2.1, x.1.2.2.2.2.1, x.1.2.2.2.2.2.1, x.1.2.2.2.2.2.2.1, ()), (x.2.1.1, x.2.1.2.1, x.2.1.2.2.1, x.2.1.2.2.2.1, ()), IntKind.i64.wrap (x.2.2.1 + (1 : Int)), ())))
    (some (.inr (.inl ((x.1.1, x.1.2.1, x.1.2.2.1, x.1.2.2.2.1, x.1.2.2.2.2.1, x.1.2.2.2.2.2.1, x.1.2.2.2.2.2.2.1, ()), (x.2.1.1, x.2.1.2.1, x.2.1.2.2.1, x.2.1.2.2.2.1, ()), ()))))
noncomputable def ref21_types_l38 : LCtr := ⟨[1, 2, 6], (.cons (.ptr (.cons (.val (.int .i64)) (.cons (.val (.int .i64)) (.cons (.val (.lst t_easementref08_Pair)) (.cons (.val (.lst t_api_Type)) (.cons (.val (.lst t_api_Slot)) (.cons (.val (.lst t_api_Sig)) (.cons (.val (.lst t_api_Block)) .nil)))))))) (.cons (.ptr (.cons (.val (.int .i64)) (.cons (.val (.int .i64)) (.cons (.val (.int .i64)) (.cons (.val (.int .i64)) .nil))))) (.cons (.val (.int .i64)) .nil))), [some 0, some 1], [2], [⟨.ret, [1, 2], (.cons (.ptr (.cons (.val (.int .i64)) (.cons (.val (.int .i64)) (.cons (.val (.lst t_easementref08_Pair)) (.cons (.val (.lst t_api_Type)) (.cons (.val (.lst t_api_Slot)) (.cons (.val (.lst t_api_Sig)) (.cons (.val (.lst t_api_Block)) .nil)))))))) (.cons (.ptr (.cons (.val (.int .i64)) (.cons (.val (.int .i64)) (.cons (.val (.int .i64)) (.cons (.val (.int .i64)) .nil))))) .nil)), [some 0, some 1]⟩, ⟨(.exit 2), [1, 2], (.cons (.ptr (.cons (.val (.int .i64)) (.cons (.val (.int .i64)) (.cons (.val (.lst t_easementref08_Pair)) (.cons (.val (.lst t_api_Type)) (.cons (.val (.lst t_api_Slot)) (.cons (.val (.lst t_api_Sig)) (.cons (.val (.lst t_api_Block)) .nil)))))))) (.cons (.ptr (.cons (.val (.int .i64)) (.cons (.val (.int .i64)) (.cons (.val (.int .i64)) (.cons (.val (.int .i64)) .nil))))) .nil)), [some 0, some 1]⟩], [], lim ref21_types_l38_step⟩
noncomputable def ref21_types_ls2 : List (Nat × LCtr) := (38, ref21_types_l38) :: ref21_types_ls1
theorem ref21_types_lsok2 : LsOK Try.prog Try.f97.ntmps ref21_types_code ref21_types_ls2 :=
  loop_at (L := ref21_types_l38) (fz := ref21_types_fz) ref21_types_fsok ref21_types_isok ref21_types_lsok1 (by kernel_rfl) (by kernel_rfl) (by kernel_rfl) (step := ref21_types_l38_step) rfl (fun g x => by kernel_rfl)
noncomputable def ref21_types (x : (V_api_Body × Unit)) : Option (V_valid_Fault × Unit) :=
  cond ((x.1.2.2.2.1.length : Int) == (0 : Int))
    (some (((14 : Int), (2 : Int), (0 : Int), (0 : Int), ()), ()))
    (cond (decide ((x.1.2.2.2.1.length : Int) > (65536 : Int)))
      (some (((6 : Int), (2 : Int), (0 : Int), (0 : Int), ()), ()))
      (Option.bind (lim ref21_types_l12_step ((x.1.1, x.1.2.1, x.1.2.2.1, x.1.2.2.2.1, x.1.2.2.2.2.1, x.1.2.2.2.2.2.1, x.1.2.2.2.2.2.2.1, ()), ((0 : Int), (0 : Int), (0 : Int), (0 : Int), ()), (0 : Int), ())) fun y2 => out2 y2
        (fun z3 =>
          some ((z3.2.1.1, z3.2.1.2.1, z3.2.1.2.2.1, z3.2.1.2.2.2.1, ()), ()))
        (fun z4 =>
          Option.bind (ref15_Check ((z4.1.2.2.2.2.1, ()), z4.1.1, ())) fun y5 =>
          cond (y5.1 != (0 : Int))
            (some ((y5.1, (3 : Int), (0 : Int), (0 : Int), ()), ()))
            (ck (inB (0 : Int) (z4.1.2.2.2.1.length)) <|
            Option.bind (ref15_Shape (((rdL t_api_Type z4.1.2.2.2.1 (0 : Int)).1, ()), (z4.1.2.2.2.2.1, ()), ())) fun y6 =>
            cond (!y6.1)
              (some (((8 : Int), (3 : Int), (0 : Int), (0 : Int), ()), ()))
              (cond (decide ((z4.1.2.2.2.2.2.1.length : Int) > (65536 : Int)))
                (some (((6 : Int), (4 : Int), (0 : Int), (0 : Int), ()), ()))
                (Option.bind (lim ref21_types_l38_step ((z4.1.1, z4.1.2.1, z4.1.2.2.1, z4.1.2.2.2.1, z4.1.2.2.2.2.1, z4.1.2.2.2.2.2.1, z4.1.2.2.2.2.2.2.1, ()), (z4.2.1.1, z4.2.1.2.1, z4.2.1.2.2.1, z4.2.1.2.2.2.1, ()), (0 : Int), ())) fun y8 => out2 y8
                  (fun z9 =>
                    some ((z9.2.1.1, z9.2.1.2.1, z9.2.1.2.2.1, z9.2.1.2.2.2.1, ()), ()))
                  (fun z10 =>
                    some (((0 : Int), (0 : Int), (0 : Int), (0 : Int), ()), ()))))))))
noncomputable def ref21_types_c : Ctr := ⟨(.cons t_api_Body .nil), (.cons t_valid_Fault .nil), ref21_types, none⟩
theorem ref21_types_ok : CtrOK Try.prog 97 ref21_types_c :=
  fun_at (fz := ref21_types_fz) ref21_types_fsok ref21_types_isok Try.func97 (by kernel_rfl) (c := ref21_types_code) (by kernel_rfl) ref21_types_lsok2 (by kernel_rfl) (fun x => by kernel_rfl)
/-! ### easement/easementref18.Dst: function 131 -/
noncomputable def ref18_Dst_code : Code := Try.f131.body.getD .skip
noncomputable def ref18_Dst_fs : List (Nat × Ctr) := []
noncomputable def ref18_Dst_is : List (Nat × List PI) := []
theorem ref18_Dst_fsok : FsOK Try.prog ref18_Dst_fs := trivial
theorem ref18_Dst_isok : IsOK Try.prog ref18_Dst_is := trivial
def ref18_Dst_fz : List (Nat × List Nat) := []
noncomputable def ref18_Dst_ls0 : List (Nat × LCtr) := []
theorem ref18_Dst_lsok0 : LsOK Try.prog Try.f131.ntmps ref18_Dst_code ref18_Dst_ls0 := trivial
noncomputable def ref18_Dst (x : (Int × Unit)) : Option (Bool × Unit) :=
  some (cond (cond (cond (x.1 == (1 : Int)) true (x.1 == (2 : Int))) true (x.1 == (3 : Int))) true (x.1 == (5 : Int)), ())
noncomputable def ref18_Dst_c : Ctr := ⟨(.cons (.int .i64) .nil), (.cons .bool .nil), ref18_Dst, none⟩
theorem ref18_Dst_ok : CtrOK Try.prog 131 ref18_Dst_c :=
  fun_at (fz := ref18_Dst_fz) ref18_Dst_fsok ref18_Dst_isok Try.func131 (by kernel_rfl) (c := ref18_Dst_code) (by kernel_rfl) ref18_Dst_lsok0 (by kernel_rfl) (fun x => by kernel_rfl)
/-! ### easement/easementref18.Src: function 132 -/
noncomputable def ref18_Src_code : Code := Try.f132.body.getD .skip
noncomputable def ref18_Src_fs : List (Nat × Ctr) := []
noncomputable def ref18_Src_is : List (Nat × List PI) := []
theorem ref18_Src_fsok : FsOK Try.prog ref18_Src_fs := trivial
theorem ref18_Src_isok : IsOK Try.prog ref18_Src_is := trivial
def ref18_Src_fz : List (Nat × List Nat) := []
noncomputable def ref18_Src_ls0 : List (Nat × LCtr) := []
theorem ref18_Src_lsok0 : LsOK Try.prog Try.f132.ntmps ref18_Src_code ref18_Src_ls0 := trivial
noncomputable def ref18_Src (x : (Int × Unit)) : Option (Bool × Unit) :=
  some (cond (decide (x.1 ≥ (1 : Int))) (decide (x.1 ≤ (4 : Int))) false, ())
noncomputable def ref18_Src_c : Ctr := ⟨(.cons (.int .i64) .nil), (.cons .bool .nil), ref18_Src, none⟩
theorem ref18_Src_ok : CtrOK Try.prog 132 ref18_Src_c :=
  fun_at (fz := ref18_Src_fz) ref18_Src_fsok ref18_Src_isok Try.func132 (by kernel_rfl) (c := ref18_Src_code) (by kernel_rfl) ref18_Src_lsok0 (by kernel_rfl) (fun x => by kernel_rfl)
/-! ### easement/easementref18.Region: function 133 -/
noncomputable def ref18_Region_code : Code := Try.f133.body.getD .skip
noncomputable def ref18_Region_fs : List (Nat × Ctr) := []
noncomputable def ref18_Region_is : List (Nat × List PI) := []
theorem ref18_Region_fsok : FsOK Try.prog ref18_Region_fs := trivial
theorem ref18_Region_isok : IsOK Try.prog ref18_Region_is := trivial
def ref18_Region_fz : List (Nat × List Nat) := []
noncomputable def ref18_Region_ls0 : List (Nat × LCtr) := []
theorem ref18_Region_lsok0 : LsOK Try.prog Try.f133.ntmps ref18_Region_code ref18_Region_ls0 := trivial
noncomputable def ref18_Region (x : (Int × Unit)) : Option (Bool × Unit) :=
  some (cond (x.1 == (2 : Int)) true (x.1 == (3 : Int)), ())
noncomputable def ref18_Region_c : Ctr := ⟨(.cons (.int .i64) .nil), (.cons .bool .nil), ref18_Region, none⟩
theorem ref18_Region_ok : CtrOK Try.prog 133 ref18_Region_c :=
  fun_at (fz := ref18_Region_fz) ref18_Region_fsok ref18_Region_isok Try.func133 (by kernel_rfl) (c := ref18_Region_code) (by kernel_rfl) ref18_Region_lsok0 (by kernel_rfl) (fun x => by kernel_rfl)
/-! ### easement/easementref18.Form: function 130 -/
noncomputable def ref18_Form_code : Code := Try.f130.body.getD .skip
noncomputable def ref18_Form_fs : List (Nat × Ctr) := [(131, ref18_Dst_c), (132, ref18_Src_c), (133, ref18_Region_c)]
noncomputable def ref18_Form_is : List (Nat × List PI) := []
theorem ref18_Form_fsok : FsOK Try.prog ref18_Form_fs := ⟨ref18_Dst_ok, ref18_Src_ok, ref18_Region_ok, trivial⟩
theorem ref18_Form_isok : IsOK Try.prog ref18_Form_is := trivial
def ref18_Form_fz : List (Nat × List Nat) := []
noncomputable def ref18_Form_ls0 : List (Nat × LCtr) := []
theorem ref18_Form_lsok0 : LsOK Try.prog Try.f130.ntmps ref18_Form_code ref18_Form_ls0 := trivial
noncomputable def ref18_Form (x : (V_api_Prov × Unit)) : Option (Bool × Unit) :=
  cond (cond (decide (x.1.1 ≥ (0 : Int))) (decide (x.1.1 ≤ (5 : Int))) false)
    (Option.bind (ref18_Dst (x.1.1, ())) fun y1 =>
    cond (cond y1.1 true (x.1.2.1 == (0 : Int)))
      (Option.bind (ref18_Src (x.1.1, ())) fun y2 =>
      cond (cond y2.1 true (x.1.2.2.1 == (0 : Int)))
        (Option.bind (ref18_Region (x.1.1, ())) fun y3 =>
        some (cond y3.1 true (cond (x.1.2.2.2.1 == (0 : Int)) (!x.1.2.2.2.2.1) false), ()))
        (some (false, ())))
      (some (false, ())))
    (some (false, ()))
noncomputable def ref18_Form_c : Ctr := ⟨(.cons t_api_Prov .nil), (.cons .bool .nil), ref18_Form, none⟩
theorem ref18_Form_ok : CtrOK Try.prog 130 ref18_Form_c :=
  fun_at (fz := ref18_Form_fz) ref18_Form_fsok ref18_Form_isok Try.func130 (by kernel_rfl) (c := ref18_Form_code) (by kernel_rfl) ref18_Form_lsok0 (by kernel_rfl) (fun x => by kernel_rfl)
/-! ### easement/easementref16.slots: function 159, at objects -/
noncomputable def ref16_slots_p0_code : Code := Try.f159.body.getD .skip
noncomputable def ref16_slots_p0_fs : List (Nat × Ctr) := []
noncomputable def ref16_slots_p0_is : List (Nat × List PI) := []
theorem ref16_slots_p0_fsok : FsOK Try.prog ref16_slots_p0_fs := trivial
theorem ref16_slots_p0_isok : IsOK Try.prog ref16_slots_p0_is := trivial
def ref16_slots_p0_fz : List (Nat × List Nat) := []
noncomputable def ref16_slots_p0_ls0 : List (Nat × LCtr) := []
theorem ref16_slots_p0_lsok0 : LsOK Try.prog Try.f159.ntmps ref16_slots_p0_code ref16_slots_p0_ls0 := trivial
noncomputable def ref16_slots_p0_j81_v (x : ((List V_api_Prov) × (List V_api_Slot) × (List V_api_Slot) × Int × Int × Int × Bool × Unit)) : Option (((List V_api_Prov) × Unit) ⊕ Empty) :=
  cond (x.2.2.2.2.2.2.1)
    (ck (inB x.2.2.2.2.2.1 (x.2.2.1.length)) <|
    ck (inB x.2.2.2.2.2.1 (x.2.1.length)) <|
    let v1 := x.1 ++ [((rdL t_api_Slot x.2.2.1 x.2.2.2.2.2.1).1, (rdL t_api_Slot x.2.1 x.2.2.2.2.2.1).1, x.2.2.2.1, IntKind.i64.wrap (x.2.2.2.2.1 + x.2.2.2.2.2.1), true, ())]
    ck (roomB v1.length 46) <|
    some (.inl (v1, ())))
    (some (.inl (x.1, ())))
noncomputable def ref16_slots_p0_j81 : LCtr := ⟨[0, 1, 2, 3, 4, 11, 40], (.cons (.own t_api_Prov) (.cons (.val (.lst t_api_Slot)) (.cons (.val (.lst t_api_Slot)) (.cons (.val (.int .i64)) (.cons (.val (.int .i64)) (.cons (.val (.int .i64)) (.cons (.val .bool) .nil))))))), [], [1, 2, 3, 4, 11], [⟨.normal, [0], (.cons (.own t_api_Prov) .nil), [none]⟩], [], ref16_slots_p0_j81_v⟩
noncomputable def ref16_slots_p0_ls1 : List (Nat × LCtr) := (786513, ref16_slots_p0_j81) :: ref16_slots_p0_ls0
theorem ref16_slots_p0_lsok1 : LsOK Try.prog Try.f159.ntmps ref16_slots_p0_code ref16_slots_p0_ls1 :=
  join_at (L := ref16_slots_p0_j81) (fz := ref16_slots_p0_fz) ref16_slots_p0_fsok ref16_slots_p0_isok ref16_slots_p0_lsok0 (by kernel_rfl) (by kernel_rfl) (fun x => by kernel_rfl)
noncomputable def ref16_slots_p0_l4_step (g : ((List V_api_Prov) × (List V_api_Slot) × (List V_api_Slot) × Int × Int × Int × Unit) → Option (((List V_api_Prov) × Unit) ⊕ Empty)) (x : ((List V_api_Prov) × (List V_api_Slot) × (List V_api_Slot) × Int × Int × Int × Unit)) : Option (((List V_api_Prov) × Unit) ⊕ Empty) :=
  cond (decide (x.2.2.2.2.2.1 < (x.2.1.length : Int)))
    (ck (inB x.2.2.2.2.2.1 (x.2.1.length)) <|
    ck (inB x.2.2.2.2.2.1 (x.2.2.1.length)) <|
    let v1 := x.1 ++ [((rdL t_api_Slot x.2.1 x.2.2.2.2.2.1).1, (rdL t_api_Slot x.2.2.1 x.2.2.2.2.2.1).1, x.2.2.2.1, IntKind.i64.wrap (x.2.2.2.2.1 + x.2.2.2.2.2.1), false, ())]
    ck (roomB v1.length 46) <|
    ck (inB x.2.2.2.2.2.1 (x.2.2.1.length)) <|
    Option.bind (ref16_slots_p0_j81_v (v1, x.2.1, x.2.2.1, x.2.2.2.1, x.2.2.2.2.1, x.2.2.2.2.2.1, (rdL t_api_Slot x.2.2.1 x.2.2.2.2.2.1).2.1, ())) fun y1 => out1 y1
      (fun z2 =>
        g (z2.1, x.2.1, x.2.2.1, x.2.2.2.1, x.2.2.2.2.1, IntKind.i64.wrap (x.2.2.2.2.2.1 + (1 : Int)), ())))
    (some (.inl (x.1, ())))
noncomputable def ref16_slots_p0_l4 : LCtr := ⟨[0, 1, 2, 3, 4, 11], (.cons (.own t_api_Prov) (.cons (.val (.lst t_api_Slot)) (.cons (.val (.lst t_api_Slot)) (.cons (.val (.int .i64)) (.cons (.val (.int .i64)) (.cons (.val (.int .i64)) .nil)))))), [none], [1, 2, 3, 4], [⟨(.exit 0), [0], (.cons (.own t_api_Prov) .nil), [none]⟩], [], lim ref16_slots_p0_l4_step⟩
noncomputable def ref16_slots_p0_ls2 : List (Nat × LCtr) := (4, ref16_slots_p0_l4) :: ref16_slots_p0_ls1
theorem ref16_slots_p0_lsok2 : LsOK Try.prog Try.f159.ntmps ref16_slots_p0_code ref16_slots_p0_ls2 :=
  loop_at (L := ref16_slots_p0_l4) (fz := ref16_slots_p0_fz) ref16_slots_p0_fsok ref16_slots_p0_isok ref16_slots_p0_lsok1 (by kernel_rfl) (by kernel_rfl) (by kernel_rfl) (step := ref16_slots_p0_l4_step) rfl (fun g x => by kernel_rfl)
noncomputable def ref16_slots_p0 (x : ((List V_api_Prov) × (List V_api_Slot) × (List V_api_Slot) × Int × Int × Unit)) : Option (((List V_api_Prov) × Unit) ⊕ Empty) :=
  Option.bind (lim ref16_slots_p0_l4_step (x.1, x.2.1, x.2.2.1, x.2.2.2.1, x.2.2.2.2.1, (0 : Int), ())) fun y3 => out1 y3
    (fun z4 =>
      some (.inl (z4.1, ())))
noncomputable def ref16_slots_p0_L : LCtr := ⟨[0, 1, 2, 3, 4], (.cons (.own t_api_Prov) (.cons (.val (.lst t_api_Slot)) (.cons (.val (.lst t_api_Slot)) (.cons (.val (.int .i64)) (.cons (.val (.int .i64)) .nil))))), [], [], [⟨.ret, [10], (.cons (.own t_api_Prov) .nil), [none]⟩], [], ref16_slots_p0⟩
noncomputable def ref16_slots_p0_c : PI := ⟨Try.f159.ntmps, ref16_slots_p0_code, Try.f159.results.toList, ref16_slots_p0_L⟩
theorem ref16_slots_p0_ok : PIOK Try.prog 159 ref16_slots_p0_c :=
  proc_at (L := ref16_slots_p0_L) (fz := ref16_slots_p0_fz) ref16_slots_p0_fsok ref16_slots_p0_isok Try.func159 (by kernel_rfl) (by kernel_rfl) ref16_slots_p0_lsok2 (by kernel_rfl) (fun x => by kernel_rfl)
/-! ### easement/easementref16.Flow: function 134 -/
noncomputable def ref16_Flow_code : Code := Try.f134.body.getD .skip
noncomputable def ref16_Flow_fs : List (Nat × Ctr) := [(74, ref15_Shape_c)]
noncomputable def ref16_Flow_is : List (Nat × List PI) := [(159, [ref16_slots_p0_c])]
theorem ref16_Flow_fsok : FsOK Try.prog ref16_Flow_fs := ⟨ref15_Shape_ok, trivial⟩
theorem ref16_Flow_isok : IsOK Try.prog ref16_Flow_is := ⟨⟨ref16_slots_p0_ok, trivial⟩, trivial⟩
def ref16_Flow_fz : List (Nat × List Nat) := []
noncomputable def ref16_Flow_ls0 : List (Nat × LCtr) := []
theorem ref16_Flow_lsok0 : LsOK Try.prog Try.f134.ntmps ref16_Flow_code ref16_Flow_ls0 := trivial
noncomputable def ref16_Flow (x : (V_api_Type × V_api_Type × Int × Int × Unit)) : Option ((List V_api_Prov) × Int × Unit) :=
  Option.bind (ref15_Shape ((x.1.1, ()), (x.2.1.1, ()), ())) fun y1 =>
  cond (!y1.1)
    (some (([] : List V_api_Prov), (8 : Int), ()))
    (Option.bind (ref16_slots_p0 (([] : List V_api_Prov), x.1.1, x.2.1.1, x.2.2.1, x.2.2.2.1, ())) fun y2 => out1 y2
      (fun z3 =>
        some (z3.1, (0 : Int), ())))
noncomputable def ref16_Flow_c : Ctr := ⟨(.cons t_api_Type (.cons t_api_Type (.cons (.int .i64) (.cons (.int .i64) .nil)))), (.cons (.lst t_api_Prov) (.cons (.int .i64) .nil)), ref16_Flow, none⟩
theorem ref16_Flow_ok : CtrOK Try.prog 134 ref16_Flow_c :=
  fun_at (fz := ref16_Flow_fz) ref16_Flow_fsok ref16_Flow_isok Try.func134 (by kernel_rfl) (c := ref16_Flow_code) (by kernel_rfl) ref16_Flow_lsok0 (by kernel_rfl) (fun x => by kernel_rfl)
/-! ### easement/easementref15.Ref: function 29 -/
noncomputable def ref15_Ref_code : Code := Try.f29.body.getD .skip
noncomputable def ref15_Ref_fs : List (Nat × Ctr) := []
noncomputable def ref15_Ref_is : List (Nat × List PI) := []
theorem ref15_Ref_fsok : FsOK Try.prog ref15_Ref_fs := trivial
theorem ref15_Ref_isok : IsOK Try.prog ref15_Ref_is := trivial
def ref15_Ref_fz : List (Nat × List Nat) := []
noncomputable def ref15_Ref_ls0 : List (Nat × LCtr) := []
theorem ref15_Ref_lsok0 : LsOK Try.prog Try.f29.ntmps ref15_Ref_code ref15_Ref_ls0 := trivial
noncomputable def ref15_Ref_l6_step (g : (((List V_api_Slot) × Unit) × Bool × (List V_api_Slot) × Int × Unit) → Option (((List V_api_Slot) × ((List V_api_Slot) × Unit) × Unit) ⊕ Empty)) (x : (((List V_api_Slot) × Unit) × Bool × (List V_api_Slot) × Int × Unit)) : Option (((List V_api_Slot) × ((List V_api_Slot) × Unit) × Unit) ⊕ Empty) :=
  cond (decide (x.2.2.2.1 < (x.1.1.length : Int)))
    (ck (inB x.2.2.2.1 (x.1.1.length)) <|
    ck (inB x.2.2.2.1 (x.1.1.length)) <|
    let v1 := x.2.2.1 ++ [((rdL t_api_Slot x.1.1 x.2.2.2.1).1, cond (rdL t_api_Slot x.1.1 x.2.2.2.1).2.1 true x.2.1, ())]
    ck (roomB v1.length 19) <|
    g ((x.1.1, ()), x.2.1, v1, IntKind.i64.wrap (x.2.2.2.1 + (1 : Int)), ()))
    (some (.inl (x.2.2.1, (x.1.1, ()), ())))
noncomputable def ref15_Ref_l6 : LCtr := ⟨[3, 2, 7, 8], (.cons (.ptr (.cons (.val (.lst t_api_Slot)) .nil)) (.cons (.val .bool) (.cons (.own t_api_Slot) (.cons (.val (.int .i64)) .nil)))), [some 0, none], [6], [⟨(.exit 0), [7, 3], (.cons (.own t_api_Slot) (.cons (.ptr (.cons (.val (.lst t_api_Slot)) .nil)) .nil)), [none, some 0]⟩], [], lim ref15_Ref_l6_step⟩
noncomputable def ref15_Ref_ls1 : List (Nat × LCtr) := (6, ref15_Ref_l6) :: ref15_Ref_ls0
theorem ref15_Ref_lsok1 : LsOK Try.prog Try.f29.ntmps ref15_Ref_code ref15_Ref_ls1 :=
  loop_at (L := ref15_Ref_l6) (fz := ref15_Ref_fz) ref15_Ref_fsok ref15_Ref_isok ref15_Ref_lsok0 (by kernel_rfl) (by kernel_rfl) (by kernel_rfl) (step := ref15_Ref_l6_step) rfl (fun g x => by kernel_rfl)
noncomputable def ref15_Ref (x : (V_api_Type × Int × Bool × Unit)) : Option (V_api_Type × Unit) :=
  Option.bind (lim ref15_Ref_l6_step ((x.1.1, ()), x.2.2.1, [(x.2.1, false, ())], (0 : Int), ())) fun y1 => out1 y1
    (fun z2 =>
      some ((z2.1, ()), ()))
noncomputable def ref15_Ref_c : Ctr := ⟨(.cons t_api_Type (.cons (.int .i64) (.cons .bool .nil))), (.cons t_api_Type .nil), ref15_Ref, none⟩
theorem ref15_Ref_ok : CtrOK Try.prog 29 ref15_Ref_c :=
  fun_at (fz := ref15_Ref_fz) ref15_Ref_fsok ref15_Ref_isok Try.func29 (by kernel_rfl) (c := ref15_Ref_code) (by kernel_rfl) ref15_Ref_lsok1 (by kernel_rfl) (fun x => by kernel_rfl)
/-! ### easement/easementref16.Loan: function 135 -/
noncomputable def ref16_Loan_code : Code := Try.f135.body.getD .skip
noncomputable def ref16_Loan_fs : List (Nat × Ctr) := [(29, ref15_Ref_c), (74, ref15_Shape_c)]
noncomputable def ref16_Loan_is : List (Nat × List PI) := [(159, [ref16_slots_p0_c])]
theorem ref16_Loan_fsok : FsOK Try.prog ref16_Loan_fs := ⟨ref15_Ref_ok, ref15_Shape_ok, trivial⟩
theorem ref16_Loan_isok : IsOK Try.prog ref16_Loan_is := ⟨⟨ref16_slots_p0_ok, trivial⟩, trivial⟩
def ref16_Loan_fz : List (Nat × List Nat) := []
noncomputable def ref16_Loan_ls0 : List (Nat × LCtr) := []
theorem ref16_Loan_lsok0 : LsOK Try.prog Try.f135.ntmps ref16_Loan_code ref16_Loan_ls0 := trivial
noncomputable def ref16_Loan (x : (V_api_Type × V_api_Type × Int × Bool × Unit)) : Option ((List V_api_Prov) × Int × Unit) :=
  Option.bind (ref15_Ref ((x.1.1, ()), x.2.2.1, x.2.2.2.1, ())) fun y1 =>
  Option.bind (ref15_Shape (y1.1, (x.2.1.1, ()), ())) fun y2 =>
  cond (!y2.1)
    (some (([] : List V_api_Prov), (8 : Int), ()))
    (ck (inB (0 : Int) (x.2.1.1.length)) <|
    ck (decide (0 ≤ (1 : Int)) && decide ((1 : Int) ≤ x.2.1.1.length)) <|
    Option.bind (ref16_slots_p0 ([(x.2.2.1, (rdL t_api_Slot x.2.1.1 (0 : Int)).1, (2 : Int), (0 : Int), false, ())], x.1.1, x.2.1.1.drop (1 : Int).toNat, (1 : Int), (1 : Int), ())) fun y3 => out1 y3
      (fun z4 =>
        some (z4.1, (0 : Int), ())))
noncomputable def ref16_Loan_c : Ctr := ⟨(.cons t_api_Type (.cons t_api_Type (.cons (.int .i64) (.cons .bool .nil)))), (.cons (.lst t_api_Prov) (.cons (.int .i64) .nil)), ref16_Loan, none⟩
theorem ref16_Loan_ok : CtrOK Try.prog 135 ref16_Loan_c :=
  fun_at (fz := ref16_Loan_fz) ref16_Loan_fsok ref16_Loan_isok Try.func135 (by kernel_rfl) (c := ref16_Loan_code) (by kernel_rfl) ref16_Loan_lsok0 (by kernel_rfl) (fun x => by kernel_rfl)
/-! ### easement/easementref16.Again: function 136 -/
noncomputable def ref16_Again_code : Code := Try.f136.body.getD .skip
noncomputable def ref16_Again_fs : List (Nat × Ctr) := [(74, ref15_Shape_c)]
noncomputable def ref16_Again_is : List (Nat × List PI) := [(159, [ref16_slots_p0_c])]
theorem ref16_Again_fsok : FsOK Try.prog ref16_Again_fs := ⟨ref15_Shape_ok, trivial⟩
theorem ref16_Again_isok : IsOK Try.prog ref16_Again_is := ⟨⟨ref16_slots_p0_ok, trivial⟩, trivial⟩
def ref16_Again_fz : List (Nat × List Nat) := []
noncomputable def ref16_Again_ls0 : List (Nat × LCtr) := []
theorem ref16_Again_lsok0 : LsOK Try.prog Try.f136.ntmps ref16_Again_code ref16_Again_ls0 := trivial
noncomputable def ref16_Again_l8_step (g : (((List V_api_Slot) × Unit) × Bool × Int × Unit) → Option (((List V_api_Prov) × Int × ((List V_api_Slot) × Unit) × Unit) ⊕ ((((List V_api_Slot) × Unit) × Unit) ⊕ Empty))) (x : (((List V_api_Slot) × Unit) × Bool × Int × Unit)) : Option (((List V_api_Prov) × Int × ((List V_api_Slot) × Unit) × Unit) ⊕ ((((List V_api_Slot) × Unit) × Unit) ⊕ Empty)) :=
  cond (decide (x.2.2.1 < (x.1.1.length : Int)))
    (ck ((inB x.2.2.1 (x.1.1.length)) || !x.2.1) <|
    cond (cond x.2.1 (!(rdL t_api_Slot x.1.1 x.2.2.1).2.1) false)
      (some (.inl (([] : List V_api_Prov), (8 : Int), (x.1.1, ()), ())))
      (g ((x.1.1, ()), x.2.1, IntKind.i64.wrap (x.2.2.1 + (1 : Int)), ())))
    (some (.inr (.inl ((x.1.1, ()), ()))))
noncomputable def ref16_Again_l8 : LCtr := ⟨[4, 3, 10], (.cons (.ptr (.cons (.val (.lst t_api_Slot)) .nil)) (.cons (.val .bool) (.cons (.val (.int .i64)) .nil))), [some 0], [2, 4, 5], [⟨.ret, [8, 9, 4], (.cons (.own t_api_Prov) (.cons (.val (.int .i64)) (.cons (.ptr (.cons (.val (.lst t_api_Slot)) .nil)) .nil))), [none, some 0]⟩, ⟨(.exit 0), [4], (.cons (.ptr (.cons (.val (.lst t_api_Slot)) .nil)) .nil), [some 0]⟩], [], lim ref16_Again_l8_step⟩
noncomputable def ref16_Again_ls1 : List (Nat × LCtr) := (8, ref16_Again_l8) :: ref16_Again_ls0
theorem ref16_Again_lsok1 : LsOK Try.prog Try.f136.ntmps ref16_Again_code ref16_Again_ls1 :=
  loop_at (L := ref16_Again_l8) (fz := ref16_Again_fz) ref16_Again_fsok ref16_Again_isok ref16_Again_lsok0 (by kernel_rfl) (by kernel_rfl) (by kernel_rfl) (step := ref16_Again_l8_step) rfl (fun g x => by kernel_rfl)
noncomputable def ref16_Again (x : (V_api_Type × V_api_Type × Int × Bool × Unit)) : Option ((List V_api_Prov) × Int × Unit) :=
  cond (!((x.1.1.length : Int) == (0 : Int)))
    (Option.bind (ref15_Shape ((x.1.1, ()), (x.2.1.1, ()), ())) fun y1 =>
    ck ((inB (0 : Int) (x.1.1.length)) || !(!(!y1.1))) <|
    cond (cond (!y1.1) true (rdL t_api_Slot x.1.1 (0 : Int)).2.1)
      (some (([] : List V_api_Prov), (8 : Int), ()))
      (Option.bind (lim ref16_Again_l8_step ((x.1.1, ()), x.2.2.2.1, (1 : Int), ())) fun y2 => out2 y2
        (fun z3 =>
          some (z3.1, z3.2.1, ()))
        (fun z4 =>
          ck (inB (0 : Int) (z4.1.1.length)) <|
          ck (inB (0 : Int) (x.2.1.1.length)) <|
          ck (decide (0 ≤ (1 : Int)) && decide ((1 : Int) ≤ z4.1.1.length)) <|
          ck (decide (0 ≤ (1 : Int)) && decide ((1 : Int) ≤ x.2.1.1.length)) <|
          Option.bind (ref16_slots_p0 ([((rdL t_api_Slot z4.1.1 (0 : Int)).1, x.2.2.1, (3 : Int), (0 : Int), false, ()), (x.2.2.1, (rdL t_api_Slot x.2.1.1 (0 : Int)).1, (2 : Int), (0 : Int), false, ())], z4.1.1.drop (1 : Int).toNat, x.2.1.1.drop (1 : Int).toNat, (1 : Int), (1 : Int), ())) fun y5 => out1 y5
            (fun z6 =>
              some (z6.1, (0 : Int), ())))))
    (ck ((inB (0 : Int) (x.1.1.length)) || !false) <|
    some (([] : List V_api_Prov), (8 : Int), ()))
noncomputable def ref16_Again_c : Ctr := ⟨(.cons t_api_Type (.cons t_api_Type (.cons (.int .i64) (.cons .bool .nil)))), (.cons (.lst t_api_Prov) (.cons (.int .i64) .nil)), ref16_Again, none⟩
theorem ref16_Again_ok : CtrOK Try.prog 136 ref16_Again_c :=
  fun_at (fz := ref16_Again_fz) ref16_Again_fsok ref16_Again_isok Try.func136 (by kernel_rfl) (c := ref16_Again_code) (by kernel_rfl) ref16_Again_lsok1 (by kernel_rfl) (fun x => by kernel_rfl)
/-! ### easement/easementref18.Needs: function 116 -/
noncomputable def ref18_Needs_code : Code := Try.f116.body.getD .skip
noncomputable def ref18_Needs_fs : List (Nat × Ctr) := [(130, ref18_Form_c), (131, ref18_Dst_c), (132, ref18_Src_c), (133, ref18_Region_c), (134, ref16_Flow_c), (135, ref16_Loan_c), (136, ref16_Again_c)]
noncomputable def ref18_Needs_is : List (Nat × List PI) := []
theorem ref18_Needs_fsok : FsOK Try.prog ref18_Needs_fs := ⟨ref18_Form_ok, ref18_Dst_ok, ref18_Src_ok, ref18_Region_ok, ref16_Flow_ok, ref16_Loan_ok, ref16_Again_ok, trivial⟩
theorem ref18_Needs_isok : IsOK Try.prog ref18_Needs_is := trivial
def ref18_Needs_fz : List (Nat × List Nat) := []
noncomputable def ref18_Needs_ls0 : List (Nat × LCtr) := []
theorem ref18_Needs_lsok0 : LsOK Try.prog Try.f116.ntmps ref18_Needs_code ref18_Needs_ls0 := trivial
noncomputable def ref18_Needs (x : (V_api_Prov × (List V_api_Type) × Int × Unit)) : Option ((List V_api_Prov) × Int × Unit) :=
  Option.bind (ref18_Form ((x.1.1, x.1.2.1, x.1.2.2.1, x.1.2.2.2.1, x.1.2.2.2.2.1, ()), ())) fun y1 =>
  cond (!y1.1)
    (some (([] : List V_api_Prov), (3 : Int), ()))
    (Option.bind (ref18_Dst (x.1.1, ())) fun y2 =>
    cond (!(cond y2.1 (cond (decide (x.1.2.1 < (0 : Int))) true (decide (x.1.2.1 ≥ (x.2.1.length : Int)))) false))
      (Option.bind (ref18_Src (x.1.1, ())) fun y3 =>
      cond (!(cond y3.1 (cond (decide (x.1.2.2.1 < (0 : Int))) true (decide (x.1.2.2.1 ≥ (x.2.1.length : Int)))) false))
        (Option.bind (ref18_Region (x.1.1, ())) fun y4 =>
        cond (cond y4.1 (cond (decide (x.1.2.2.2.1 < (0 : Int))) true (decide (x.1.2.2.2.1 ≥ x.2.2.1))) false)
          (some (([] : List V_api_Prov), (7 : Int), ()))
          (cond (x.1.1 == (1 : Int))
            (ck (inB x.1.2.2.1 (x.2.1.length)) <|
            ck (inB x.1.2.1 (x.2.1.length)) <|
            Option.bind (ref16_Flow (((rdL t_api_Type x.2.1 x.1.2.2.1).1, ()), ((rdL t_api_Type x.2.1 x.1.2.1).1, ()), (1 : Int), (0 : Int), ())) fun y5 =>
            some (y5.1, y5.2.1, ()))
            (cond (x.1.1 == (2 : Int))
              (ck (inB x.1.2.2.1 (x.2.1.length)) <|
              ck (inB x.1.2.1 (x.2.1.length)) <|
              Option.bind (ref16_Loan (((rdL t_api_Type x.2.1 x.1.2.2.1).1, ()), ((rdL t_api_Type x.2.1 x.1.2.1).1, ()), x.1.2.2.2.1, x.1.2.2.2.2.1, ())) fun y6 =>
              some (y6.1, y6.2.1, ()))
              (cond (x.1.1 == (3 : Int))
                (ck (inB x.1.2.2.1 (x.2.1.length)) <|
                ck (inB x.1.2.1 (x.2.1.length)) <|
                Option.bind (ref16_Again (((rdL t_api_Type x.2.1 x.1.2.2.1).1, ()), ((rdL t_api_Type x.2.1 x.1.2.1).1, ()), x.1.2.2.2.1, x.1.2.2.2.2.1, ())) fun y7 =>
                some (y7.1, y7.2.1, ()))
                (some (([] : List V_api_Prov), (0 : Int), ()))))))
        (some (([] : List V_api_Prov), (7 : Int), ())))
      (some (([] : List V_api_Prov), (7 : Int), ())))
noncomputable def ref18_Needs_c : Ctr := ⟨(.cons t_api_Prov (.cons (.lst t_api_Type) (.cons (.int .i64) .nil))), (.cons (.lst t_api_Prov) (.cons (.int .i64) .nil)), ref18_Needs, none⟩
theorem ref18_Needs_ok : CtrOK Try.prog 116 ref18_Needs_c :=
  fun_at (fz := ref18_Needs_fz) ref18_Needs_fsok ref18_Needs_isok Try.func116 (by kernel_rfl) (c := ref18_Needs_code) (by kernel_rfl) ref18_Needs_lsok0 (by kernel_rfl) (fun x => by kernel_rfl)
/-! ### easement/easementref19.Form: function 137 -/
noncomputable def ref19_Form_code : Code := Try.f137.body.getD .skip
noncomputable def ref19_Form_fs : List (Nat × Ctr) := []
noncomputable def ref19_Form_is : List (Nat × List PI) := []
theorem ref19_Form_fsok : FsOK Try.prog ref19_Form_fs := trivial
theorem ref19_Form_isok : IsOK Try.prog ref19_Form_is := trivial
def ref19_Form_fz : List (Nat × List Nat) := []
noncomputable def ref19_Form_ls0 : List (Nat × LCtr) := []
theorem ref19_Form_lsok0 : LsOK Try.prog Try.f137.ntmps ref19_Form_code ref19_Form_ls0 := trivial
noncomputable def ref19_Form (x : (V_api_Term × Unit)) : Option (Int × Unit) :=
  cond (cond (decide (x.1.1 < (1 : Int))) true (decide (x.1.1 > (4 : Int))))
    (some ((3 : Int), ()))
    (cond (cond (cond (cond (cond (x.1.1 == (1 : Int)) true (x.1.1 == (4 : Int))) ((x.1.2.2.2.1.length : Int) != (1 : Int)) false) true (cond (x.1.1 == (2 : Int)) ((x.1.2.2.2.1.length : Int) == (0 : Int)) false)) true (cond (x.1.1 == (3 : Int)) ((x.1.2.2.2.1.length : Int) != (0 : Int)) false))
      (some ((3 : Int), ()))
      (cond (cond (x.1.1 != (4 : Int)) (cond (cond (x.1.2.1 != (0 : Int)) true (x.1.2.2.1 != (0 : Int))) true ((x.1.2.2.2.2.2.1.length : Int) != (0 : Int))) false)
        (some ((3 : Int), ()))
        (cond (cond (cond (x.1.1 == (1 : Int)) true (x.1.1 == (3 : Int))) ((x.1.2.2.2.2.1.length : Int) != (0 : Int)) false)
          (some ((3 : Int), ()))
          (cond (cond (cond (decide ((x.1.2.2.2.1.length : Int) > (16 : Int))) true (decide ((x.1.2.2.2.2.1.length : Int) > (16 : Int)))) true (decide ((x.1.2.2.2.2.2.1.length : Int) > (16 : Int))))
            (some ((6 : Int), ()))
            (some ((0 : Int), ()))))))
noncomputable def ref19_Form_c : Ctr := ⟨(.cons t_api_Term .nil), (.cons (.int .i64) .nil), ref19_Form, none⟩
theorem ref19_Form_ok : CtrOK Try.prog 137 ref19_Form_c :=
  fun_at (fz := ref19_Form_fz) ref19_Form_fsok ref19_Form_isok Try.func137 (by kernel_rfl) (c := ref19_Form_code) (by kernel_rfl) ref19_Form_lsok0 (by kernel_rfl) (fun x => by kernel_rfl)
/-! ### easement/easementref19.within: function 138 -/
noncomputable def ref19_within_code : Code := Try.f138.body.getD .skip
noncomputable def ref19_within_fs : List (Nat × Ctr) := []
noncomputable def ref19_within_is : List (Nat × List PI) := []
theorem ref19_within_fsok : FsOK Try.prog ref19_within_fs := trivial
theorem ref19_within_isok : IsOK Try.prog ref19_within_is := trivial
def ref19_within_fz : List (Nat × List Nat) := []
noncomputable def ref19_within_ls0 : List (Nat × LCtr) := []
theorem ref19_within_lsok0 : LsOK Try.prog Try.f138.ntmps ref19_within_code ref19_within_ls0 := trivial
noncomputable def ref19_within_l4_step (g : ((List Int) × Int × Int × Unit) → Option ((Bool × Unit) ⊕ (Unit ⊕ Empty))) (x : ((List Int) × Int × Int × Unit)) : Option ((Bool × Unit) ⊕ (Unit ⊕ Empty)) :=
  cond (decide (x.2.2.1 < (x.1.length : Int)))
    (ck (inB x.2.2.1 (x.1.length)) <|
    let v1 := decide ((rdL (.int .i64) x.1 x.2.2.1) < (0 : Int))
    ck ((inB x.2.2.1 (x.1.length)) || !(!v1)) <|
    cond (cond v1 true (decide ((rdL (.int .i64) x.1 x.2.2.1) ≥ x.2.1)))
      (some (.inl (false, ())))
      (g (x.1, x.2.1, IntKind.i64.wrap (x.2.2.1 + (1 : Int)), ())))
    (some (.inr (.inl ())))
noncomputable def ref19_within_l4 : LCtr := ⟨[0, 1, 5], (.cons (.val (.lst (.int .i64))) (.cons (.val (.int .i64)) (.cons (.val (.int .i64)) .nil))), [], [], [⟨.ret, [4], (.cons (.val .bool) .nil), []⟩, ⟨(.exit 0), [], .nil, []⟩], [], lim ref19_within_l4_step⟩
noncomputable def ref19_within_ls1 : List (Nat × LCtr) := (4, ref19_within_l4) :: ref19_within_ls0
theorem ref19_within_lsok1 : LsOK Try.prog Try.f138.ntmps ref19_within_code ref19_within_ls1 :=
  loop_at (L := ref19_within_l4) (fz := ref19_within_fz) ref19_within_fsok ref19_within_isok ref19_within_lsok0 (by kernel_rfl) (by kernel_rfl) (by kernel_rfl) (step := ref19_within_l4_step) rfl (fun g x => by kernel_rfl)
noncomputable def ref19_within (x : ((List Int) × Int × Unit)) : Option (Bool × Unit) :=
  Option.bind (lim ref19_within_l4_step (x.1, x.2.1, (0 : Int), ())) fun y1 => out2 y1
    (fun z2 =>
      some (z2.1, ()))
    (fun z3 =>
      some (true, ()))
noncomputable def ref19_within_c : Ctr := ⟨(.cons (.lst (.int .i64)) (.cons (.int .i64) .nil)), (.cons .bool .nil), ref19_within, none⟩
theorem ref19_within_ok : CtrOK Try.prog 138 ref19_within_c :=
  fun_at (fz := ref19_within_fz) ref19_within_fsok ref19_within_isok Try.func138 (by kernel_rfl) (c := ref19_within_code) (by kernel_rfl) ref19_within_lsok1 (by kernel_rfl) (fun x => by kernel_rfl)
/-! ### easement/easementref15.Subst: function 24 -/
noncomputable def ref15_Subst_code : Code := Try.f24.body.getD .skip
noncomputable def ref15_Subst_fs : List (Nat × Ctr) := []
noncomputable def ref15_Subst_is : List (Nat × List PI) := []
theorem ref15_Subst_fsok : FsOK Try.prog ref15_Subst_fs := trivial
theorem ref15_Subst_isok : IsOK Try.prog ref15_Subst_is := trivial
def ref15_Subst_fz : List (Nat × List Nat) := []
noncomputable def ref15_Subst_ls0 : List (Nat × LCtr) := []
theorem ref15_Subst_lsok0 : LsOK Try.prog Try.f24.ntmps ref15_Subst_code ref15_Subst_ls0 := trivial
noncomputable def ref15_Subst_l6_step (g : (((List V_api_Slot) × Unit) × ((List V_api_Slot) × Unit) × (List Int) × (List V_api_Slot) × Int × Unit) → Option ((Int × ((List V_api_Slot) × Unit) × (Unit × Unit) × (List V_api_Slot) × Unit) ⊕ (((List V_api_Slot) × ((List V_api_Slot) × Unit) × ((List V_api_Slot) × Unit) × Unit) ⊕ Empty))) (x : (((List V_api_Slot) × Unit) × ((List V_api_Slot) × Unit) × (List Int) × (List V_api_Slot) × Int × Unit)) : Option ((Int × ((List V_api_Slot) × Unit) × (Unit × Unit) × (List V_api_Slot) × Unit) ⊕ (((List V_api_Slot) × ((List V_api_Slot) × Unit) × ((List V_api_Slot) × Unit) × Unit) ⊕ Empty)) :=
  cond (decide (x.2.2.2.2.1 < (x.1.1.length : Int)))
    (ck (inB x.2.2.2.2.1 (x.1.1.length)) <|
    let v1 := (rdL t_api_Slot x.1.1 x.2.2.2.2.1).1
    cond (cond (decide (v1 < (0 : Int))) true (decide (v1 ≥ (x.2.2.1.length : Int))))
      (some (.inl ((7 : Int), (x.1.1, ()), ((), ()), x.2.2.2.1, ())))
      (ck (inB v1 (x.2.2.1.length)) <|
      ck (inB x.2.2.2.2.1 (x.1.1.length)) <|
      let v2 := x.2.2.2.1 ++ [(rdL (.int .i64) x.2.2.1 v1, (rdL t_api_Slot x.1.1 x.2.2.2.2.1).2.1, ())]
      ck (roomB v2.length 19) <|
      g ((x.1.1, ()), (x.2.1.1, ()), x.2.2.1, v2, IntKind.i64.wrap (x.2.2.2.2.1 + (1 : Int)), ())))
    (some (.inr (.inl (x.2.2.2.1, (x.1.1, ()), (x.2.1.1, ()), ()))))
noncomputable def ref15_Subst_l6 : LCtr := ⟨[2, 4, 1, 6, 7], (.cons (.ptr (.cons (.val (.lst t_api_Slot)) .nil)) (.cons (.ptr (.cons (.own t_api_Slot) .nil)) (.cons (.val (.lst (.int .i64))) (.cons (.own t_api_Slot) (.cons (.val (.int .i64)) .nil))))), [some 0, some 1, some 2, none], [4], [⟨.ret, [5, 2, 4, 6], (.cons (.val (.int .i64)) (.cons (.ptr (.cons (.val (.lst t_api_Slot)) .nil)) (.cons (.ptr (.cons (.cst false) .nil)) (.cons (.own t_api_Slot) .nil)))), [some 0, some 1, none]⟩, ⟨(.exit 0), [6, 2, 4], (.cons (.own t_api_Slot) (.cons (.ptr (.cons (.val (.lst t_api_Slot)) .nil)) (.cons (.ptr (.cons (.own t_api_Slot) .nil)) .nil))), [none, some 0, some 1, some 2]⟩], [], lim ref15_Subst_l6_step⟩
noncomputable def ref15_Subst_ls1 : List (Nat × LCtr) := (6, ref15_Subst_l6) :: ref15_Subst_ls0
theorem ref15_Subst_lsok1 : LsOK Try.prog Try.f24.ntmps ref15_Subst_code ref15_Subst_ls1 :=
  loop_at (L := ref15_Subst_l6) (fz := ref15_Subst_fz) ref15_Subst_fsok ref15_Subst_isok ref15_Subst_lsok0 (by kernel_rfl) (by kernel_rfl) (by kernel_rfl) (step := ref15_Subst_l6_step) rfl (fun g x => by kernel_rfl)
noncomputable def ref15_Subst (x : (V_api_Type × (List Int) × Unit)) : Option (V_api_Type × Int × Unit) :=
  Option.bind (lim ref15_Subst_l6_step ((x.1.1, ()), (([] : List V_api_Slot), ()), x.2.1, ([] : List V_api_Slot), (0 : Int), ())) fun y1 => out2 y1
    (fun z2 =>
      some ((([] : List V_api_Slot), ()), z2.1, ()))
    (fun z3 =>
      some ((z3.1, ()), (0 : Int), ()))
noncomputable def ref15_Subst_c : Ctr := ⟨(.cons t_api_Type (.cons (.lst (.int .i64)) .nil)), (.cons t_api_Type (.cons (.int .i64) .nil)), ref15_Subst, none⟩
theorem ref15_Subst_ok : CtrOK Try.prog 24 ref15_Subst_c :=
  fun_at (fz := ref15_Subst_fz) ref15_Subst_fsok ref15_Subst_isok Try.func24 (by kernel_rfl) (c := ref15_Subst_code) (by kernel_rfl) ref15_Subst_lsok1 (by kernel_rfl) (fun x => by kernel_rfl)
/-! ### easement/easementref17.Call: function 139 -/
noncomputable def ref17_Call_code : Code := Try.f139.body.getD .skip
noncomputable def ref17_Call_fs : List (Nat × Ctr) := [(115, ref17_Check_c), (24, ref15_Subst_c), (134, ref16_Flow_c)]
noncomputable def ref17_Call_is : List (Nat × List PI) := []
theorem ref17_Call_fsok : FsOK Try.prog ref17_Call_fs := ⟨ref17_Check_ok, ref15_Subst_ok, ref16_Flow_ok, trivial⟩
theorem ref17_Call_isok : IsOK Try.prog ref17_Call_is := trivial
def ref17_Call_fz : List (Nat × List Nat) := []
noncomputable def ref17_Call_ls0 : List (Nat × LCtr) := []
theorem ref17_Call_lsok0 : LsOK Try.prog Try.f139.ntmps ref17_Call_code ref17_Call_ls0 := trivial
noncomputable def ref17_Call_l16_step (g : ((Int × (List V_easementref08_Pair) × (List V_api_Type) × (List V_api_Slot) × Unit) × (List Int) × (List V_api_Prov) × Int × Unit) → Option (((List V_api_Prov) × (Int × (List V_easementref08_Pair) × (List V_api_Type) × (List V_api_Slot) × Unit) × Unit) ⊕ Empty)) (x : ((Int × (List V_easementref08_Pair) × (List V_api_Type) × (List V_api_Slot) × Unit) × (List Int) × (List V_api_Prov) × Int × Unit)) : Option (((List V_api_Prov) × (Int × (List V_easementref08_Pair) × (List V_api_Type) × (List V_api_Slot) × Unit) × Unit) ⊕ Empty) :=
  cond (decide (x.2.2.2.1 < (x.1.2.1.length : Int)))
    (ck (inB x.2.2.2.1 (x.1.2.1.length)) <|
    let v1 := (rdL t_easementref08_Pair x.1.2.1 x.2.2.2.1).1
    ck (inB v1 (x.2.1.length)) <|
    ck (inB x.2.2.2.1 (x.1.2.1.length)) <|
    let v2 := (rdL t_easementref08_Pair x.1.2.1 x.2.2.2.1).2.1
    ck (inB v2 (x.2.1.length)) <|
    let v3 := x.2.2.1 ++ [(rdL (.int .i64) x.2.1 v1, rdL (.int .i64) x.2.1 v2, (4 : Int), x.2.2.2.1, false, ())]
    ck (roomB v3.length 46) <|
    g ((x.1.1, x.1.2.1, x.1.2.2.1, x.1.2.2.2.1, ()), x.2.1, v3, IntKind.i64.wrap (x.2.2.2.1 + (1 : Int)), ()))
    (some (.inl (x.2.2.1, (x.1.1, x.1.2.1, x.1.2.2.1, x.1.2.2.2.1, ()), ())))
noncomputable def ref17_Call_l16 : LCtr := ⟨[4, 1, 11, 12], (.cons (.ptr (.cons (.val (.int .i64)) (.cons (.val (.lst t_easementref08_Pair)) (.cons (.val (.lst t_api_Type)) (.cons (.val (.lst t_api_Slot)) .nil))))) (.cons (.val (.lst (.int .i64))) (.cons (.own t_api_Prov) (.cons (.val (.int .i64)) .nil)))), [some 0, none], [1, 2, 4, 7], [⟨(.exit 0), [11, 4], (.cons (.own t_api_Prov) (.cons (.ptr (.cons (.val (.int .i64)) (.cons (.val (.lst t_easementref08_Pair)) (.cons (.val (.lst t_api_Type)) (.cons (.val (.lst t_api_Slot)) .nil))))) .nil)), [none, some 0]⟩], [], lim ref17_Call_l16_step⟩
noncomputable def ref17_Call_ls1 : List (Nat × LCtr) := (16, ref17_Call_l16) :: ref17_Call_ls0
theorem ref17_Call_lsok1 : LsOK Try.prog Try.f139.ntmps ref17_Call_code ref17_Call_ls1 :=
  loop_at (L := ref17_Call_l16) (fz := ref17_Call_fz) ref17_Call_fsok ref17_Call_isok ref17_Call_lsok0 (by kernel_rfl) (by kernel_rfl) (by kernel_rfl) (step := ref17_Call_l16_step) rfl (fun g x => by kernel_rfl)
noncomputable def ref17_Call_l24_step (g : ((Int × (List V_easementref08_Pair) × (List V_api_Type) × (List V_api_Slot) × Unit) × (List Int) × (List V_api_Type) × (List V_api_Prov) × Int × Unit) → Option (((List V_api_Prov) × Int × (Int × (List V_easementref08_Pair) × (List V_api_Type) × (List V_api_Slot) × Unit) × (List V_api_Prov) × Unit) ⊕ (((List V_api_Prov) × (Int × (List V_easementref08_Pair) × (List V_api_Type) × (List V_api_Slot) × Unit) × Unit) ⊕ Empty))) (x : ((Int × (List V_easementref08_Pair) × (List V_api_Type) × (List V_api_Slot) × Unit) × (List Int) × (List V_api_Type) × (List V_api_Prov) × Int × Unit)) : Option (((List V_api_Prov) × Int × (Int × (List V_easementref08_Pair) × (List V_api_Type) × (List V_api_Slot) × Unit) × (List V_api_Prov) × Unit) ⊕ (((List V_api_Prov) × (Int × (List V_easementref08_Pair) × (List V_api_Type) × (List V_api_Slot) × Unit) × Unit) ⊕ Empty)) :=
  cond (decide (x.2.2.2.2.1 < (x.1.2.2.1.length : Int)))
    (ck (inB x.2.2.2.2.1 (x.1.2.2.1.length)) <|
    Option.bind (ref15_Subst (((rdL t_api_Type x.1.2.2.1 x.2.2.2.2.1).1, ()), x.2.1, ())) fun y4 =>
    ck (inB x.2.2.2.2.1 (x.2.2.1.length)) <|
    Option.bind (ref16_Flow (((rdL t_api_Type x.2.2.1 x.2.2.2.2.1).1, ()), (y4.1.1, ()), (5 : Int), IntKind.i64.wrap ((16 : Int) * x.2.2.2.2.1), ())) fun y5 =>
    cond (y5.2.1 != (0 : Int))
      (some (.inl (([] : List V_api_Prov), y5.2.1, (x.1.1, x.1.2.1, x.1.2.2.1, x.1.2.2.2.1, ()), x.2.2.2.1, ())))
      (ck (roomB (x.2.2.2.1 ++ y5.1).length 46) <|
      g ((x.1.1, x.1.2.1, x.1.2.2.1, x.1.2.2.2.1, ()), x.2.1, x.2.2.1, x.2.2.2.1 ++ y5.1, IntKind.i64.wrap (x.2.2.2.2.1 + (1 : Int)), ())))
    (some (.inr (.inl (x.2.2.2.1, (x.1.1, x.1.2.1, x.1.2.2.1, x.1.2.2.2.1, ()), ()))))
noncomputable def ref17_Call_l24 : LCtr := ⟨[4, 1, 2, 11, 13], (.cons (.ptr (.cons (.val (.int .i64)) (.cons (.val (.lst t_easementref08_Pair)) (.cons (.val (.lst t_api_Type)) (.cons (.val (.lst t_api_Slot)) .nil))))) (.cons (.val (.lst (.int .i64))) (.cons (.val (.lst t_api_Type)) (.cons (.own t_api_Prov) (.cons (.val (.int .i64)) .nil))))), [some 0, none], [1, 4, 7], [⟨.ret, [8, 9, 4, 11], (.cons (.own t_api_Prov) (.cons (.val (.int .i64)) (.cons (.ptr (.cons (.val (.int .i64)) (.cons (.val (.lst t_easementref08_Pair)) (.cons (.val (.lst t_api_Type)) (.cons (.val (.lst t_api_Slot)) .nil))))) (.cons (.own t_api_Prov) .nil)))), [none, some 0, none]⟩, ⟨(.exit 2), [11, 4], (.cons (.own t_api_Prov) (.cons (.ptr (.cons (.val (.int .i64)) (.cons (.val (.lst t_easementref08_Pair)) (.cons (.val (.lst t_api_Type)) (.cons (.val (.lst t_api_Slot)) .nil))))) .nil)), [none, some 0]⟩], [], lim ref17_Call_l24_step⟩
noncomputable def ref17_Call_ls2 : List (Nat × LCtr) := (24, ref17_Call_l24) :: ref17_Call_ls1
theorem ref17_Call_lsok2 : LsOK Try.prog Try.f139.ntmps ref17_Call_code ref17_Call_ls2 :=
  loop_at (L := ref17_Call_l24) (fz := ref17_Call_fz) ref17_Call_fsok ref17_Call_isok ref17_Call_lsok1 (by kernel_rfl) (by kernel_rfl) (by kernel_rfl) (step := ref17_Call_l24_step) rfl (fun g x => by kernel_rfl)
noncomputable def ref17_Call (x : (V_api_Sig × (List Int) × (List V_api_Type) × V_api_Type × Unit)) : Option ((List V_api_Prov) × Int × Unit) :=
  Option.bind (ref17_Check ((x.1.1, x.1.2.1, x.1.2.2.1, x.1.2.2.2.1, ()), ())) fun y1 =>
  cond (y1.1 != (0 : Int))
    (some (([] : List V_api_Prov), y1.1, ()))
    (cond (cond ((x.2.1.length : Int) != x.1.1) true ((x.2.2.1.length : Int) != (x.1.2.2.1.length : Int)))
      (some (([] : List V_api_Prov), (2 : Int), ()))
      (Option.bind (lim ref17_Call_l16_step ((x.1.1, x.1.2.1, x.1.2.2.1, x.1.2.2.2.1, ()), x.2.1, ([] : List V_api_Prov), (0 : Int), ())) fun y2 => out1 y2
        (fun z3 =>
          Option.bind (lim ref17_Call_l24_step ((z3.2.1.1, z3.2.1.2.1, z3.2.1.2.2.1, z3.2.1.2.2.2.1, ()), x.2.1, x.2.2.1, z3.1, (0 : Int), ())) fun y6 => out2 y6
            (fun z7 =>
              some (z7.1, z7.2.1, ()))
            (fun z8 =>
              Option.bind (ref15_Subst ((z8.2.1.2.2.2.1, ()), x.2.1, ())) fun y9 =>
              Option.bind (ref16_Flow ((y9.1.1, ()), (x.2.2.2.1.1, ()), (6 : Int), (0 : Int), ())) fun y10 =>
              cond (y10.2.1 != (0 : Int))
                (some (([] : List V_api_Prov), y10.2.1, ()))
                (ck (roomB (z8.1 ++ y10.1).length 46) <|
                some (z8.1 ++ y10.1, (0 : Int), ()))))))
noncomputable def ref17_Call_c : Ctr := ⟨(.cons t_api_Sig (.cons (.lst (.int .i64)) (.cons (.lst t_api_Type) (.cons t_api_Type .nil)))), (.cons (.lst t_api_Prov) (.cons (.int .i64) .nil)), ref17_Call, none⟩
theorem ref17_Call_ok : CtrOK Try.prog 139 ref17_Call_c :=
  fun_at (fz := ref17_Call_fz) ref17_Call_fsok ref17_Call_isok Try.func139 (by kernel_rfl) (c := ref17_Call_code) (by kernel_rfl) ref17_Call_lsok2 (by kernel_rfl) (fun x => by kernel_rfl)
/-! ### easement/easementref19.Needs: function 117 -/
noncomputable def ref19_Needs_code : Code := Try.f117.body.getD .skip
noncomputable def ref19_Needs_fs : List (Nat × Ctr) := [(137, ref19_Form_c), (138, ref19_within_c), (134, ref16_Flow_c), (139, ref17_Call_c)]
noncomputable def ref19_Needs_is : List (Nat × List PI) := []
theorem ref19_Needs_fsok : FsOK Try.prog ref19_Needs_fs := ⟨ref19_Form_ok, ref19_within_ok, ref16_Flow_ok, ref17_Call_ok, trivial⟩
theorem ref19_Needs_isok : IsOK Try.prog ref19_Needs_is := trivial
def ref19_Needs_fz : List (Nat × List Nat) := []
noncomputable def ref19_Needs_ls0 : List (Nat × LCtr) := []
theorem ref19_Needs_lsok0 : LsOK Try.prog Try.f117.ntmps ref19_Needs_code ref19_Needs_ls0 := trivial
noncomputable def ref19_Needs_l30_step (g : ((Int × Int × Int × (List Int) × (List Int) × (List Int) × Unit) × (Int × Int × (List V_api_Type) × (List V_api_Slot) × (List V_api_Sig) × Unit) × (List V_api_Type) × Int × Unit) → Option (((List V_api_Type) × (Int × Int × Int × (List Int) × (List Int) × (List Int) × Unit) × (Int × Int × (List V_api_Type) × (List V_api_Slot) × (List V_api_Sig) × Unit) × Unit) ⊕ Empty)) (x : ((Int × Int × Int × (List Int) × (List Int) × (List Int) × Unit) × (Int × Int × (List V_api_Type) × (List V_api_Slot) × (List V_api_Sig) × Unit) × (List V_api_Type) × Int × Unit)) : Option (((List V_api_Type) × (Int × Int × Int × (List Int) × (List Int) × (List Int) × Unit) × (Int × Int × (List V_api_Type) × (List V_api_Slot) × (List V_api_Sig) × Unit) × Unit) ⊕ Empty) :=
  cond (decide (x.2.2.2.1 < (x.1.2.2.2.2.1.length : Int)))
    (ck (inB x.2.2.2.1 (x.1.2.2.2.2.1.length)) <|
    let v1 := rdL (.int .i64) x.1.2.2.2.2.1 x.2.2.2.1
    ck (inB v1 (x.2.1.2.2.1.length)) <|
    let v2 := x.2.2.1 ++ [((rdL t_api_Type x.2.1.2.2.1 v1).1, ())]
    ck (roomB v2.length 26) <|
    g ((x.1.1, x.1.2.1, x.1.2.2.1, x.1.2.2.2.1, x.1.2.2.2.2.1, x.1.2.2.2.2.2.1, ()), (x.2.1.1, x.2.1.2.1, x.2.1.2.2.1, x.2.1.2.2.2.1, x.2.1.2.2.2.2.1, ()), v2, IntKind.i64.wrap (x.2.2.2.1 + (1 : Int)), ()))
    (some (.inl (x.2.2.1, (x.1.1, x.1.2.1, x.1.2.2.1, x.1.2.2.2.1, x.1.2.2.2.2.1, x.1.2.2.2.2.2.1, ()), (x.2.1.1, x.2.1.2.1, x.2.1.2.2.1, x.2.1.2.2.2.1, x.2.1.2.2.2.2.1, ()), ())))
noncomputable def ref19_Needs_l30 : LCtr := ⟨[2, 3, 7, 8], (.cons (.ptr (.cons (.val (.int .i64)) (.cons (.val (.int .i64)) (.cons (.val (.int .i64)) (.cons (.val (.lst (.int .i64))) (.cons (.val (.lst (.int .i64))) (.cons (.val (.lst (.int .i64))) .nil))))))) (.cons (.ptr (.cons (.val (.int .i64)) (.cons (.val (.int .i64)) (.cons (.val (.lst t_api_Type)) (.cons (.val (.lst t_api_Slot)) (.cons (.val (.lst t_api_Sig)) .nil)))))) (.cons (.own t_api_Type) (.cons (.val (.int .i64)) .nil)))), [some 0, some 1, none], [2, 3], [⟨(.exit 0), [7, 2, 3], (.cons (.own t_api_Type) (.cons (.ptr (.cons (.val (.int .i64)) (.cons (.val (.int .i64)) (.cons (.val (.int .i64)) (.cons (.val (.lst (.int .i64))) (.cons (.val (.lst (.int .i64))) (.cons (.val (.lst (.int .i64))) .nil))))))) (.cons (.ptr (.cons (.val (.int .i64)) (.cons (.val (.int .i64)) (.cons (.val (.lst t_api_Type)) (.cons (.val (.lst t_api_Slot)) (.cons (.val (.lst t_api_Sig)) .nil)))))) .nil))), [none, some 0, some 1]⟩], [], lim ref19_Needs_l30_step⟩
noncomputable def ref19_Needs_ls1 : List (Nat × LCtr) := (30, ref19_Needs_l30) :: ref19_Needs_ls0
theorem ref19_Needs_lsok1 : LsOK Try.prog Try.f117.ntmps ref19_Needs_code ref19_Needs_ls1 :=
  loop_at (L := ref19_Needs_l30) (fz := ref19_Needs_fz) ref19_Needs_fsok ref19_Needs_isok ref19_Needs_lsok0 (by kernel_rfl) (by kernel_rfl) (by kernel_rfl) (step := ref19_Needs_l30_step) rfl (fun g x => by kernel_rfl)
noncomputable def ref19_Needs (x : (V_api_Term × V_term_Around × Unit)) : Option ((List V_api_Prov) × Int × Unit) :=
  Option.bind (ref19_Form ((x.1.1, x.1.2.1, x.1.2.2.1, x.1.2.2.2.1, x.1.2.2.2.2.1, x.1.2.2.2.2.2.1, ()), ())) fun y1 =>
  cond (y1.1 != (0 : Int))
    (some (([] : List V_api_Prov), y1.1, ()))
    (Option.bind (ref19_within (x.1.2.2.2.1, x.2.1.1, ())) fun y2 =>
    cond (!(!y2.1))
      (Option.bind (ref19_within (x.1.2.2.2.2.1, (x.2.1.2.2.1.length : Int), ())) fun y3 =>
      cond (!(!y3.1))
        (Option.bind (ref19_within (x.1.2.2.2.2.2.1, x.2.1.2.1, ())) fun y4 =>
        cond (!y4.1)
          (some (([] : List V_api_Prov), (7 : Int), ()))
          (cond (x.1.1 == (4 : Int))
            (Option.bind (ref19_within ([x.1.2.2.1], (x.2.1.2.2.1.length : Int), ())) fun y5 =>
            cond (!(!y5.1))
              (Option.bind (ref19_within ([x.1.2.1], (x.2.1.2.2.2.2.1.length : Int), ())) fun y6 =>
              cond (!y6.1)
                (some (([] : List V_api_Prov), (7 : Int), ()))
                (cond (cond (x.1.1 == (3 : Int)) ((x.2.1.2.2.1.length : Int) == (0 : Int)) false)
                  (some (([] : List V_api_Prov), (14 : Int), ()))
                  (cond (x.1.1 == (3 : Int))
                    (ck (inB (0 : Int) (x.2.1.2.2.1.length)) <|
                    Option.bind (ref16_Flow (((rdL t_api_Type x.2.1.2.2.1 (0 : Int)).1, ()), (x.2.1.2.2.2.1, ()), (7 : Int), (0 : Int), ())) fun y7 =>
                    some (y7.1, y7.2.1, ()))
                    (cond (x.1.1 == (4 : Int))
                      (Option.bind (lim ref19_Needs_l30_step ((x.1.1, x.1.2.1, x.1.2.2.1, x.1.2.2.2.1, x.1.2.2.2.2.1, x.1.2.2.2.2.2.1, ()), (x.2.1.1, x.2.1.2.1, x.2.1.2.2.1, x.2.1.2.2.2.1, x.2.1.2.2.2.2.1, ()), ([] : List V_api_Type), (0 : Int), ())) fun y8 => out1 y8
                        (fun z9 =>
                          ck (inB z9.2.1.2.1 (z9.2.2.1.2.2.2.2.1.length)) <|
                          ck (inB z9.2.1.2.2.1 (z9.2.2.1.2.2.1.length)) <|
                          let v1 := rdL t_api_Sig z9.2.2.1.2.2.2.2.1 z9.2.1.2.1
                          Option.bind (ref17_Call ((v1.1, v1.2.1, v1.2.2.1, v1.2.2.2.1, ()), z9.2.1.2.2.2.2.2.1, z9.1, ((rdL t_api_Type z9.2.2.1.2.2.1 z9.2.1.2.2.1).1, ()), ())) fun y10 =>
                          some (y10.1, y10.2.1, ())))
                      (some (([] : List V_api_Prov), (0 : Int), ()))))))
              (some (([] : List V_api_Prov), (7 : Int), ())))
            (cond (cond (x.1.1 == (3 : Int)) ((x.2.1.2.2.1.length : Int) == (0 : Int)) false)
              (some (([] : List V_api_Prov), (14 : Int), ()))
              (cond (x.1.1 == (3 : Int))
                (ck (inB (0 : Int) (x.2.1.2.2.1.length)) <|
                Option.bind (ref16_Flow (((rdL t_api_Type x.2.1.2.2.1 (0 : Int)).1, ()), (x.2.1.2.2.2.1, ()), (7 : Int), (0 : Int), ())) fun y11 =>
                some (y11.1, y11.2.1, ()))
                (cond (x.1.1 == (4 : Int))
                  (Option.bind (lim ref19_Needs_l30_step ((x.1.1, x.1.2.1, x.1.2.2.1, x.1.2.2.2.1, x.1.2.2.2.2.1, x.1.2.2.2.2.2.1, ()), (x.2.1.1, x.2.1.2.1, x.2.1.2.2.1, x.2.1.2.2.2.1, x.2.1.2.2.2.2.1, ()), ([] : List V_api_Type), (0 : Int), ())) fun y12 => out1 y12
                    (fun z13 =>
                      ck (inB z13.2.1.2.1 (z13.2.2.1.2.2.2.2.1.length)) <|
                      ck (inB z13.2.1.2.2.1 (z13.2.2.1.2.2.1.length)) <|
                      let v2 := rdL t_api_Sig z13.2.2.1.2.2.2.2.1 z13.2.1.2.1
                      Option.bind (ref17_Call ((v2.1, v2.2.1, v2.2.2.1, v2.2.2.2.1, ()), z13.2.1.2.2.2.2.2.1, z13.1, ((rdL t_api_Type z13.2.2.1.2.2.1 z13.2.1.2.2.1).1, ()), ())) fun y14 =>
                      some (y14.1, y14.2.1, ())))
                  (some (([] : List V_api_Prov), (0 : Int), ())))))))
        (some (([] : List V_api_Prov), (7 : Int), ())))
      (some (([] : List V_api_Prov), (7 : Int), ())))
noncomputable def ref19_Needs_c : Ctr := ⟨(.cons t_api_Term (.cons t_term_Around .nil)), (.cons (.lst t_api_Prov) (.cons (.int .i64) .nil)), ref19_Needs, none⟩
theorem ref19_Needs_ok : CtrOK Try.prog 117 ref19_Needs_c :=
  fun_at (fz := ref19_Needs_fz) ref19_Needs_fsok ref19_Needs_isok Try.func117 (by kernel_rfl) (c := ref19_Needs_code) (by kernel_rfl) ref19_Needs_lsok1 (by kernel_rfl) (fun x => by kernel_rfl)
/-! ### easement/easementref21.blocks: function 98 -/
noncomputable def ref21_blocks_code : Code := Try.f98.body.getD .skip
noncomputable def ref21_blocks_fs : List (Nat × Ctr) := [(116, ref18_Needs_c), (117, ref19_Needs_c)]
noncomputable def ref21_blocks_is : List (Nat × List PI) := []
theorem ref21_blocks_fsok : FsOK Try.prog ref21_blocks_fs := ⟨ref18_Needs_ok, ref19_Needs_ok, trivial⟩
theorem ref21_blocks_isok : IsOK Try.prog ref21_blocks_is := trivial
def ref21_blocks_fz : List (Nat × List Nat) := []
noncomputable def ref21_blocks_ls0 : List (Nat × LCtr) := []
theorem ref21_blocks_lsok0 : LsOK Try.prog Try.f98.ntmps ref21_blocks_code ref21_blocks_ls0 := trivial
noncomputable def ref21_blocks_l14_step (g : ((Int × Int × (List V_easementref08_Pair) × (List V_api_Type) × (List V_api_Slot) × (List V_api_Sig) × (List V_api_Block) × Unit) × (Int × Int × Int × Int × Unit) × Int × Int × Unit) → Option (((Int × Int × (List V_easementref08_Pair) × (List V_api_Type) × (List V_api_Slot) × (List V_api_Sig) × (List V_api_Block) × Unit) × (Int × Int × Int × Int × Unit) × Unit) ⊕ (((Int × Int × (List V_easementref08_Pair) × (List V_api_Type) × (List V_api_Slot) × (List V_api_Sig) × (List V_api_Block) × Unit) × (Int × Int × Int × Int × Unit) × Unit) ⊕ Empty))) (x : ((Int × Int × (List V_easementref08_Pair) × (List V_api_Type) × (List V_api_Slot) × (List V_api_Sig) × (List V_api_Block) × Unit) × (Int × Int × Int × Int × Unit) × Int × Int × Unit)) : Option (((Int × Int × (List V_easementref08_Pair) × (List V_api_Type) × (List V_api_Slot) × (List V_api_Sig) × (List V_api_Block) × Unit) × (Int × Int × Int × Int × Unit) × Unit) ⊕ (((Int × Int × (List V_easementref08_Pair) × (List V_api_Type) × (List V_api_Slot) × (List V_api_Sig) × (List V_api_Block) × Unit) × (Int × Int × Int × Int × Unit) × Unit) ⊕ Empty)) :=
  cond (decide (x.2.2.2.1 < (x.1.2.2.2.2.2.2.1.length : Int)))
    (ck (inB x.2.2.2.1 (x.1.2.2.2.2.2.2.1.length)) <|
    let v1 := IntKind.i64.wrap (x.2.2.1 + ((rdL t_api_Block x.1.2.2.2.2.2.2.1 x.2.2.2.1).1.length : Int))
    cond (decide (v1 > (65536 : Int)))
      (some (.inl ((x.1.1, x.1.2.1, x.1.2.2.1, x.1.2.2.2.1, x.1.2.2.2.2.1, x.1.2.2.2.2.2.1, x.1.2.2.2.2.2.2.1, ()), ((6 : Int), (5 : Int), x.2.2.2.1, (0 : Int), ()), ())))
      (g ((x.1.1, x.1.2.1, x.1.2.2.1, x.1.2.2.2.1, x.1.2.2.2.2.1, x.1.2.2.2.2.2.1, x.1.2.2.2.2.2.2.1, ()), (x.2.1.1, x.2.1.2.1, x.2.1.2.2.1, x.2.1.2.2.2.1, ()), v1, IntKind.i64.wrap (x.2.2.2.1 + (1 : Int)), ())))
    (some (.inr (.inl ((x.1.1, x.1.2.1, x.1.2.2.1, x.1.2.2.2.1, x.1.2.2.2.2.1, x.1.2.2.2.2.2.1, x.1.2.2.2.2.2.2.1, ()), (x.2.1.1, x.2.1.2.1, x.2.1.2.2.1, x.2.1.2.2.2.1, ()), ()))))
noncomputable def ref21_blocks_l14 : LCtr := ⟨[1, 2, 3, 4], (.cons (.ptr (.cons (.val (.int .i64)) (.cons (.val (.int .i64)) (.cons (.val (.lst t_easementref08_Pair)) (.cons (.val (.lst t_api_Type)) (.cons (.val (.lst t_api_Slot)) (.cons (.val (.lst t_api_Sig)) (.cons (.val (.lst t_api_Block)) .nil)))))))) (.cons (.ptr (.cons (.val (.int .i64)) (.cons (.val (.int .i64)) (.cons (.val (.int .i64)) (.cons (.val (.int .i64)) .nil))))) (.cons (.val (.int .i64)) (.cons (.val (.int .i64)) .nil)))), [some 0, some 1], [1, 2], [⟨.ret, [1, 2], (.cons (.ptr (.cons (.val (.int .i64)) (.cons (.val (.int .i64)) (.cons (.val (.lst t_easementref08_Pair)) (.cons (.val (.lst t_api_Type)) (.cons (.val (.lst t_api_Slot)) (.cons (.val (.lst t_api_Sig)) (.cons (.val (.lst t_api_Block)) .nil)))))))) (.cons (.ptr (.cons (.val (.int .i64)) (.cons (.val (.int .i64)) (.cons (.val (.int .i64)) (.cons (.val (.int .i64)) .nil))))) .nil)), [some 0, some 1]⟩, ⟨(.exit 0), [1, 2], (.cons (.ptr (.cons (.val (.int .i64)) (.cons (.val (.int .i64)) (.cons (.val (.lst t_easementref08_Pair)) (.cons (.val (.lst t_api_Type)) (.cons (.val (.lst t_api_Slot)) (.cons (.val (.lst t_api_Sig)) (.cons (.val (.lst t_api_Block)) .nil)))))))) (.cons (.ptr (.cons (.val (.int .i64)) (.cons (.val (.int .i64)) (.cons (.val (.int .i64)) (.cons (.val (.int .i64)) .nil))))) .nil)), [some 0, some 1]⟩], [], lim ref21_blocks_l14_step⟩
noncomputable def ref21_blocks_ls1 : List (Nat × LCtr) := (14, ref21_blocks_l14) :: ref21_blocks_ls0
theorem ref21_blocks_lsok1 : LsOK Try.prog Try.f98.ntmps ref21_blocks_code ref21_blocks_ls1 :=
  loop_at (L := ref21_blocks_l14) (fz := ref21_blocks_fz) ref21_blocks_fsok ref21_blocks_isok ref21_blocks_lsok0 (by kernel_rfl) (by kernel_rfl) (by kernel_rfl) (step := ref21_blocks_l14_step) rfl (fun g x => by kernel_rfl)
noncomputable def ref21_blocks_l36_step (g : ((Int × Int × (List V_easementref08_Pair) × (List V_api_Type) × (List V_api_Slot) × (List V_api_Sig) × (List V_api_Block) × Unit) × (Int × Int × Int × Int × Unit) × Int × (List V_api_Prov) × Int × Unit) → Option (((Int × Int × (List V_easementref08_Pair) × (List V_api_Type) × (List V_api_Slot) × (List V_api_Sig) × (List V_api_Block) × Unit) × (Int × Int × Int × Int × Unit) × Unit) ⊕ (((Int × Int × (List V_easementref08_Pair) × (List V_api_Type) × (List V_api_Slot) × (List V_api_Sig) × (List V_api_Block) × Unit) × (Int × Int × Int × Int × Unit) × Unit) ⊕ Empty))) (x : ((Int × Int × (List V_easementref08_Pair) × (List V_api_Type) × (List V_api_Slot) × (List V_api_Sig) × (List V_api_Block) × Unit) × (Int × Int × Int × Int × Unit) × Int × (List V_api_Prov) × Int × Unit)) : Option (((Int × Int × (List V_easementref08_Pair) × (List V_api_Type) × (List V_api_Slot) × (List V_api_Sig) × (List V_api_Block) × Unit) × (Int × Int × Int × Int × Unit) × Unit) ⊕ (((Int × Int × (List V_easementref08_Pair) × (List V_api_Type) × (List V_api_Slot) × (List V_api_Sig) × (List V_api_Block) × Unit) × (Int × Int × Int × Int × Unit) × Unit) ⊕ Empty)) :=
  cond (decide (x.2.2.2.2.1 < (x.2.2.2.1.length : Int)))
    (ck (inB x.2.2.2.2.1 (x.2.2.2.1.length)) <|
    let v1 := rdL t_api_Prov x.2.2.2.1 x.2.2.2.2.1
    Option.bind (ref18_Needs ((v1.1, v1.2.1, v1.2.2.1, v1.2.2.2.1, v1.2.2.2.2.1, ()), x.1.2.2.2.1, x.1.2.1, ())) fun y4 =>
    cond (y4.2.1 != (0 : Int))
      (some (.inl ((x.1.1, x.1.2.1, x.1.2.2.1, x.1.2.2.2.1, x.1.2.2.2.2.1, x.1.2.2.2.2.2.1, x.1.2.2.2.2.2.2.1, ()), (y4.2.1, (6 : Int), x.2.2.1, x.2.2.2.2.1, ()), ())))
      (g ((x.1.1, x.1.2.1, x.1.2.2.1, x.1.2.2.2.1, x.1.2.2.2.2.1, x.1.2.2.2.2.2.1, x.1.2.2.2.2.2.2.1, ()), (x.2.1.1, x.2.1.2.1, x.2.1.2.2.1, x.2.1.2.2.2.1, ()), x.2.2.1, x.2.2.2.1, IntKind.i64.wrap (x.2.2.2.2.1 + (1 : Int)), ())))
    (some (.inr (.inl ((x.1.1, x.1.2.1, x.1.2.2.1, x.1.2.2.2.1, x.1.2.2.2.2.1, x.1.2.2.2.2.2.1, x.1.2.2.2.2.2.2.1, ()), (x.2.1.1, x.2.1.2.1, x.2.1.2.2.1, x.2.1.2.2.2.1, ()), ()))))
noncomputable def ref21_blocks_l36 : LCtr := ⟨[1, 2, 6, 7, 8], (.cons (.ptr (.cons (.val (.int .i64)) (.cons (.val (.int .i64)) (.cons (.val (.lst t_easementref08_Pair)) (.cons (.val (.lst t_api_Type)) (.cons (.val (.lst t_api_Slot)) (.cons (.val (.lst t_api_Sig)) (.cons (.val (.lst t_api_Block)) .nil)))))))) (.cons (.ptr (.cons (.val (.int .i64)) (.cons (.val (.int .i64)) (.cons (.val (.int .i64)) (.cons (.val (.int .i64)) .nil))))) (.cons (.val (.int .i64)) (.cons (.val (.lst t_api_Prov)) (.cons (.val (.int .i64)) .nil))))), [some 0, some 1], [1, 2, 5, 6], [⟨.ret, [1, 2], (.cons (.ptr (.cons (.val (.int .i64)) (.cons (.val (.int .i64)) (.cons (.val (.lst t_easementref08_Pair)) (.cons (.val (.lst t_api_Type)) (.cons (.val (.lst t_api_Slot)) (.cons (.val (.lst t_api_Sig)) (.cons (.val (.lst t_api_Block)) .nil)))))))) (.cons (.ptr (.cons (.val (.int .i64)) (.cons (.val (.int .i64)) (.cons (.val (.int .i64)) (.cons (.val (.int .i64)) .nil))))) .nil)), [some 0, some 1]⟩, ⟨(.exit 4), [1, 2], (.cons (.ptr (.cons (.val (.int .i64)) (.cons (.val (.int .i64)) (.cons (.val (.lst t_easementref08_Pair)) (.cons (.val (.lst t_api_Type)) (.cons (.val (.lst t_api_Slot)) (.cons (.val (.lst t_api_Sig)) (.cons (.val (.lst t_api_Block)) .nil)))))))) (.cons (.ptr (.cons (.val (.int .i64)) (.cons (.val (.int .i64)) (.cons (.val (.int .i64)) (.cons (.val (.int .i64)) .nil))))) .nil)), [some 0, some 1]⟩], [], lim ref21_blocks_l36_step⟩
noncomputable def ref21_blocks_ls2 : List (Nat × LCtr) := (36, ref21_blocks_l36) :: ref21_blocks_ls1
theorem ref21_blocks_lsok2 : LsOK Try.prog Try.f98.ntmps ref21_blocks_code ref21_blocks_ls2 :=
  loop_at (L := ref21_blocks_l36) (fz := ref21_blocks_fz) ref21_blocks_fsok ref21_blocks_isok ref21_blocks_lsok1 (by kernel_rfl) (by kernel_rfl) (by kernel_rfl) (step := ref21_blocks_l36_step) rfl (fun g x => by kernel_rfl)
noncomputable def ref21_blocks_l28_step (g : ((Int × Int × (List V_easementref08_Pair) × (List V_api_Type) × (List V_api_Slot) × (List V_api_Sig) × (List V_api_Block) × Unit) × (Int × Int × Int × Int × Unit) × (Int × Int × (List V_api_Type) × (List V_api_Slot) × (List V_api_Sig) × Unit) × Int × Unit) → Option (((Int × Int × (List V_easementref08_Pair) × (List V_api_Type) × (List V_api_Slot) × (List V_api_Sig) × (List V_api_Block) × Unit) × (Int × Int × Int × Int × Unit) × (Int × Int × (List V_api_Type) × (List V_api_Slot) × (List V_api_Sig) × Unit) × Unit) ⊕ (((Int × Int × (List V_easementref08_Pair) × (List V_api_Type) × (List V_api_Slot) × (List V_api_Sig) × (List V_api_Block) × Unit) × (Int × Int × Int × Int × Unit) × (Int × Int × (List V_api_Type) × (List V_api_Slot) × (List V_api_Sig) × Unit) × Unit) ⊕ Empty))) (x : ((Int × Int × (List V_easementref08_Pair) × (List V_api_Type) × (List V_api_Slot) × (List V_api_Sig) × (List V_api_Block) × Unit) × (Int × Int × Int × Int × Unit) × (Int × Int × (List V_api_Type) × (List V_api_Slot) × (List V_api_Sig) × Unit) × Int × Unit)) : Option (((Int × Int × (List V_easementref08_Pair) × (List V_api_Type) × (List V_api_Slot) × (List V_api_Sig) × (List V_api_Block) × Unit) × (Int × Int × Int × Int × Unit) × (Int × Int × (List V_api_Type) × (List V_api_Slot) × (List V_api_Sig) × Unit) × Unit) ⊕ (((Int × Int × (List V_easementref08_Pair) × (List V_api_Type) × (List V_api_Slot) × (List V_api_Sig) × (List V_api_Block) × Unit) × (Int × Int × Int × Int × Unit) × (Int × Int × (List V_api_Type) × (List V_api_Slot) × (List V_api_Sig) × Unit) × Unit) ⊕ Empty)) :=
  cond (decide (x.2.2.2.1 < (x.1.2.2.2.2.2.2.1.length : Int)))
    (ck (inB x.2.2.2.1 (x.1.2.2.2.2.2.2.1.length)) <|
    Option.bind (lim ref21_blocks_l36_step ((x.1.1, x.1.2.1, x.1.2.2.1, x.1.2.2.2.1, x.1.2.2.2.2.1, x.1.2.2.2.2.2.1, x.1.2.2.2.2.2.2.1, ()), (x.2.1.1, x.2.1.2.1, x.2.1.2.2.1, x.2.1.2.2.2.1, ()), x.2.2.2.1, (rdL t_api_Block x.1.2.2.2.2.2.2.1 x.2.2.2.1).1, (0 : Int), ())) fun y5 => out2 y5
      (fun z6 =>
        some (.inl ((z6.1.1, z6.1.2.1, z6.1.2.2.1, z6.1.2.2.2.1, z6.1.2.2.2.2.1, z6.1.2.2.2.2.2.1, z6.1.2.2.2.2.2.2.1, ()), (z6.2.1.1, z6.2.1.2.1, z6.2.1.2.2.1, z6.2.1.2.2.2.1, ()), (x.2.2.1.1, x.2.2.1.2.1, x.2.2.1.2.2.1, x.2.2.1.2.2.2.1, x.2.2.1.2.2.2.2.1, ()), ())))
      (fun z7 =>
        ck (inB x.2.2.2.1 (z7.1.2.2.2.2.2.2.1.length)) <|
        let v1 := (rdL t_api_Block z7.1.2.2.2.2.2.2.1 x.2.2.2.1).2
        Option.bind (ref19_Needs ((v1.1, v1.2.1, v1.2.2.1, v1.2.2.2.1, v1.2.2.2.2.1, v1.2.2.2.2.2.1, ()), (x.2.2.1.1, x.2.2.1.2.1, x.2.2.1.2.2.1, x.2.2.1.2.2.2.1, x.2.2.1.2.2.2.2.1, ()), ())) fun y8 =>
        cond (y8.2.1 != (0 : Int))
          (some (.inl ((z7.1.1, z7.1.2.1, z7.1.2.2.1, z7.1.2.2.2.1, z7.1.2.2.2.2.1, z7.1.2.2.2.2.2.1, z7.1.2.2.2.2.2.2.1, ()), (y8.2.1, (7 : Int), x.2.2.2.1, (0 : Int), ()), (x.2.2.1.1, x.2.2.1.2.1, x.2.2.1.2.2.1, x.2.2.1.2.2.2.1, x.2.2.1.2.2.2.2.1, ()), ())))
          (g ((z7.1.1, z7.1.2.1, z7.1.2.2.1, z7.1.2.2.2.1, z7.1.2.2.2.2.1, z7.1.2.2.2.2.2.1, z7.1.2.2.2.2.2.2.1, ()), (z7.2.1.1, z7.2.1.2.1, z7.2.1.2.2.1, z7.2.1.2.2.2.1, ()), (x.2.2.1.1, x.2.2.1.2.1, x.2.2.1.2.2.1, x.2.2.1.2.2.2.1, x.2.2.1.2.2.2.2.1, ()), IntKind.i64.wrap (x.2.2.2.1 + (1 : Int)), ()))))
    (some (.inr (.inl ((x.1.1, x.1.2.1, x.1.2.2.1, x.1.2.2.2.1, x.1.2.2.2.2.1, x.1.2.2.2.2.2.1, x.1.2.2.2.2.2.2.1, ()), (x.2.1.1, x.2.1.2.1, x.2.1.2.2.1, x.2.1.2.2.2.1, ()), (x.2.2.1.1, x.2.2.1.2.1, x.2.2.1.2.2.1, x.2.2.1.2.2.2.1, x.2.2.1.2.2.2.2.1, ()), ()))))
noncomputable def ref21_blocks_l28 : LCtr := ⟨[1, 2, 5, 6], (.cons (.ptr (.cons (.val (.int .i64)) (.cons (.val (.int .i64)) (.cons (.val (.lst t_easementref08_Pair)) (.cons (.val (.lst t_api_Type)) (.cons (.val (.lst t_api_Slot)) (.cons (.val (.lst t_api_Sig)) (.cons (.val (.lst t_api_Block)) .nil)))))))) (.cons (.ptr (.cons (.val (.int .i64)) (.cons (.val (.int .i64)) (.cons (.val (.int .i64)) (.cons (.val (.int .i64)) .nil))))) (.cons (.ptr (.cons (.val (.int .i64)) (.cons (.val (.int .i64)) (.cons (.val (.lst t_api_Type)) (.cons (.val (.lst t_api_Slot)) (.cons (.val (.lst t_api_Sig)) .nil)))))) (.cons (.val (.int .i64)) .nil)))), [some 0, some 1, some 2], [2], [⟨.ret, [1, 2, 5], (.cons (.ptr (.cons (.val (.int .i64)) (.cons (.val (.int .i64)) (.cons (.val (.lst t_easementref08_Pair)) (.cons (.val (.lst t_api_Type)) (.cons (.val (.lst t_api_Slot)) (.cons (.val (.lst t_api_Sig)) (.cons (.val (.lst t_api_Block)) .nil)))))))) (.cons (.ptr (.cons (.val (.int .i64)) (.cons (.val (.int .i64)) (.cons (.val (.int .i64)) (.cons (.val (.int .i64)) .nil))))) (.cons (.ptr (.cons (.val (.int .i64)) (.cons (.val (.int .i64)) (.cons (.val (.lst t_api_Type)) (.cons (.val (.lst t_api_Slot)) (.cons (.val (.lst t_api_Sig)) .nil)))))) .nil))), [some 0, some 1, some 2]⟩, ⟨(.exit 2), [1, 2, 5], (.cons (.ptr (.cons (.val (.int .i64)) (.cons (.val (.int .i64)) (.cons (.val (.lst t_easementref08_Pair)) (.cons (.val (.lst t_api_Type)) (.cons (.val (.lst t_api_Slot)) (.cons (.val (.lst t_api_Sig)) (.cons (.val (.lst t_api_Block)) .nil)))))))) (.cons (.ptr (.cons (.val (.int .i64)) (.cons (.val (.int .i64)) (.cons (.val (.int .i64)) (.cons (.val (.int .i64)) .nil))))) (.cons (.ptr (.cons (.val (.int .i64)) (.cons (.val (.int .i64)) (.cons (.val (.lst t_api_Type)) (.cons (.val (.lst t_api_Slot)) (.cons (.val (.lst t_api_Sig)) .nil)))))) .nil))), [some 0, some 1, some 2]⟩], [], lim ref21_blocks_l28_step⟩
noncomputable def ref21_blocks_ls3 : List (Nat × LCtr) := (28, ref21_blocks_l28) :: ref21_blocks_ls2
theorem ref21_blocks_lsok3 : LsOK Try.prog Try.f98.ntmps ref21_blocks_code ref21_blocks_ls3 :=
  loop_at (L := ref21_blocks_l28) (fz := ref21_blocks_fz) ref21_blocks_fsok ref21_blocks_isok ref21_blocks_lsok2 (by kernel_rfl) (by kernel_rfl) (by kernel_rfl) (step := ref21_blocks_l28_step) rfl (fun g x => by kernel_rfl)
noncomputable def ref21_blocks (x : (V_api_Body × Unit)) : Option (V_valid_Fault × Unit) :=
  cond ((x.1.2.2.2.2.2.2.1.length : Int) == (0 : Int))
    (some (((14 : Int), (5 : Int), (0 : Int), (0 : Int), ()), ()))
    (cond (decide ((x.1.2.2.2.2.2.2.1.length : Int) > (65536 : Int)))
      (some (((6 : Int), (5 : Int), (0 : Int), (0 : Int), ()), ()))
      (Option.bind (lim ref21_blocks_l14_step ((x.1.1, x.1.2.1, x.1.2.2.1, x.1.2.2.2.1, x.1.2.2.2.2.1, x.1.2.2.2.2.2.1, x.1.2.2.2.2.2.2.1, ()), ((0 : Int), (0 : Int), (0 : Int), (0 : Int), ()), (0 : Int), (0 : Int), ())) fun y1 => out2 y1
        (fun z2 =>
          some ((z2.2.1.1, z2.2.1.2.1, z2.2.1.2.2.1, z2.2.1.2.2.2.1, ()), ()))
        (fun z3 =>
          Option.bind (lim ref21_blocks_l28_step ((z3.1.1, z3.1.2.1, z3.1.2.2.1, z3.1.2.2.2.1, z3.1.2.2.2.2.1, z3.1.2.2.2.2.2.1, z3.1.2.2.2.2.2.2.1, ()), (z3.2.1.1, z3.2.1.2.1, z3.2.1.2.2.1, z3.2.1.2.2.2.1, ()), ((z3.1.2.2.2.2.2.2.1.length : Int), z3.1.2.1, z3.1.2.2.2.1, z3.1.2.2.2.2.1, z3.1.2.2.2.2.2.1, ()), (0 : Int), ())) fun y9 => out2 y9
            (fun z10 =>
              some ((z10.2.1.1, z10.2.1.2.1, z10.2.1.2.2.1, z10.2.1.2.2.2.1, ()), ()))
            (fun z11 =>
              some (((0 : Int), (0 : Int), (0 : Int), (0 : Int), ()), ())))))
noncomputable def ref21_blocks_c : Ctr := ⟨(.cons t_api_Body .nil), (.cons t_valid_Fault .nil), ref21_blocks, none⟩
theorem ref21_blocks_ok : CtrOK Try.prog 98 ref21_blocks_c :=
  fun_at (fz := ref21_blocks_fz) ref21_blocks_fsok ref21_blocks_isok Try.func98 (by kernel_rfl) (c := ref21_blocks_code) (by kernel_rfl) ref21_blocks_lsok3 (by kernel_rfl) (fun x => by kernel_rfl)
/-! ### easement/easementref21.Check: function 58 -/
noncomputable def ref21_Check_code : Code := Try.f58.body.getD .skip
noncomputable def ref21_Check_fs : List (Nat × Ctr) := [(96, ref21_head_c), (97, ref21_types_c), (98, ref21_blocks_c)]
noncomputable def ref21_Check_is : List (Nat × List PI) := []
theorem ref21_Check_fsok : FsOK Try.prog ref21_Check_fs := ⟨ref21_head_ok, ref21_types_ok, ref21_blocks_ok, trivial⟩
theorem ref21_Check_isok : IsOK Try.prog ref21_Check_is := trivial
def ref21_Check_fz : List (Nat × List Nat) := []
noncomputable def ref21_Check_ls0 : List (Nat × LCtr) := []
theorem ref21_Check_lsok0 : LsOK Try.prog Try.f58.ntmps ref21_Check_code ref21_Check_ls0 := trivial
noncomputable def ref21_Check (x : (V_api_Body × Unit)) : Option (V_valid_Fault × Unit) :=
  Option.bind (ref21_head ((x.1.1, x.1.2.1, x.1.2.2.1, x.1.2.2.2.1, x.1.2.2.2.2.1, x.1.2.2.2.2.2.1, x.1.2.2.2.2.2.2.1, ()), ())) fun y1 =>
  cond (y1.1.1 != (0 : Int))
    (some ((y1.1.1, y1.1.2.1, y1.1.2.2.1, y1.1.2.2.2.1, ()), ()))
    (Option.bind (ref21_types ((x.1.1, x.1.2.1, x.1.2.2.1, x.1.2.2.2.1, x.1.2.2.2.2.1, x.1.2.2.2.2.2.1, x.1.2.2.2.2.2.2.1, ()), ())) fun y2 =>
    cond (y2.1.1 != (0 : Int))
      (some ((y2.1.1, y2.1.2.1, y2.1.2.2.1, y2.1.2.2.2.1, ()), ()))
      (Option.bind (ref21_blocks ((x.1.1, x.1.2.1, x.1.2.2.1, x.1.2.2.2.1, x.1.2.2.2.2.1, x.1.2.2.2.2.2.1, x.1.2.2.2.2.2.2.1, ()), ())) fun y3 =>
      some ((y3.1.1, y3.1.2.1, y3.1.2.2.1, y3.1.2.2.2.1, ()), ())))
noncomputable def ref21_Check_c : Ctr := ⟨(.cons t_api_Body .nil), (.cons t_valid_Fault .nil), ref21_Check, none⟩
theorem ref21_Check_ok : CtrOK Try.prog 58 ref21_Check_c :=
  fun_at (fz := ref21_Check_fz) ref21_Check_fsok ref21_Check_isok Try.func58 (by kernel_rfl) (c := ref21_Check_code) (by kernel_rfl) ref21_Check_lsok0 (by kernel_rfl) (fun x => by kernel_rfl)
/-! ### easement/easementref21.OK: function 54 -/
noncomputable def ref21_OK_code : Code := Try.f54.body.getD .skip
noncomputable def ref21_OK_fs : List (Nat × Ctr) := [(58, ref21_Check_c)]
noncomputable def ref21_OK_is : List (Nat × List PI) := []
theorem ref21_OK_fsok : FsOK Try.prog ref21_OK_fs := ⟨ref21_Check_ok, trivial⟩
theorem ref21_OK_isok : IsOK Try.prog ref21_OK_is := trivial
def ref21_OK_fz : List (Nat × List Nat) := []
noncomputable def ref21_OK_ls0 : List (Nat × LCtr) := []
theorem ref21_OK_lsok0 : LsOK Try.prog Try.f54.ntmps ref21_OK_code ref21_OK_ls0 := trivial
noncomputable def ref21_OK (x : (V_api_Body × Unit)) : Option (Bool × Unit) :=
  Option.bind (ref21_Check ((x.1.1, x.1.2.1, x.1.2.2.1, x.1.2.2.2.1, x.1.2.2.2.2.1, x.1.2.2.2.2.2.1, x.1.2.2.2.2.2.2.1, ()), ())) fun y1 =>
  some (y1.1.1 == (0 : Int), ())
noncomputable def ref21_OK_c : Ctr := ⟨(.cons t_api_Body .nil), (.cons .bool .nil), ref21_OK, none⟩
theorem ref21_OK_ok : CtrOK Try.prog 54 ref21_OK_c :=
  fun_at (fz := ref21_OK_fz) ref21_OK_fsok ref21_OK_isok Try.func54 (by kernel_rfl) (c := ref21_OK_code) (by kernel_rfl) ref21_OK_lsok0 (by kernel_rfl) (fun x => by kernel_rfl)
/-! ### (*easement/tick.Counter).Add: function 123, at objects -/
noncomputable def tick_Counter_Add_p0_code : Code := Try.f123.body.getD .skip
noncomputable def tick_Counter_Add_p0_fs : List (Nat × Ctr) := []
noncomputable def tick_Counter_Add_p0_is : List (Nat × List PI) := []
theorem tick_Counter_Add_p0_fsok : FsOK Try.prog tick_Counter_Add_p0_fs := trivial
theorem tick_Counter_Add_p0_isok : IsOK Try.prog tick_Counter_Add_p0_is := trivial
def tick_Counter_Add_p0_fz : List (Nat × List Nat) := []
noncomputable def tick_Counter_Add_p0_ls0 : List (Nat × LCtr) := []
theorem tick_Counter_Add_p0_lsok0 : LsOK Try.prog Try.f123.ntmps tick_Counter_Add_p0_code tick_Counter_Add_p0_ls0 := trivial
noncomputable def tick_Counter_Add_p0 (x : (Unit × Int × Int × Unit)) : Option (Unit ⊕ Empty) :=
  some (.inl ())
noncomputable def tick_Counter_Add_p0_L : LCtr := ⟨[0, 1, 2], (.cons (.cst true) (.cons (.val (.int .i64)) (.cons (.val (.int .i64)) .nil))), [], [], [⟨.ret, [], .nil, []⟩], [], tick_Counter_Add_p0⟩
noncomputable def tick_Counter_Add_p0_c : PI := ⟨Try.f123.ntmps, tick_Counter_Add_p0_code, Try.f123.results.toList, tick_Counter_Add_p0_L⟩
theorem tick_Counter_Add_p0_ok : PIOK Try.prog 123 tick_Counter_Add_p0_c :=
  proc_at (L := tick_Counter_Add_p0_L) (fz := tick_Counter_Add_p0_fz) tick_Counter_Add_p0_fsok tick_Counter_Add_p0_isok Try.func123 (by kernel_rfl) (by kernel_rfl) tick_Counter_Add_p0_lsok0 (by kernel_rfl) (fun x => by kernel_rfl)
/-! ### (*easement/valid.checker).wrong: function 109, at objects -/
noncomputable def valid_checker_wrong_p0_code : Code := Try.f109.body.getD .skip
noncomputable def valid_checker_wrong_p0_fs : List (Nat × Ctr) := []
noncomputable def valid_checker_wrong_p0_is : List (Nat × List PI) := [(123, [tick_Counter_Add_p0_c])]
theorem valid_checker_wrong_p0_fsok : FsOK Try.prog valid_checker_wrong_p0_fs := trivial
theorem valid_checker_wrong_p0_isok : IsOK Try.prog valid_checker_wrong_p0_is := ⟨⟨tick_Counter_Add_p0_ok, trivial⟩, trivial⟩
def valid_checker_wrong_p0_fz : List (Nat × List Nat) := []
noncomputable def valid_checker_wrong_p0_ls0 : List (Nat × LCtr) := []
theorem valid_checker_wrong_p0_lsok0 : LsOK Try.prog Try.f109.ntmps valid_checker_wrong_p0_code valid_checker_wrong_p0_ls0 := trivial
noncomputable def valid_checker_wrong_p0_j49_v (x : ((Int × Int × (List V_easementref08_Pair) × (List V_api_Type) × (List V_api_Slot) × (List V_api_Sig) × (List V_api_Block) × Unit × Int × Int × Int × Int × Unit) × Int × Int × Int × Int × Bool × Unit)) : Option (((Int × Int × (List V_easementref08_Pair) × (List V_api_Type) × (List V_api_Slot) × (List V_api_Sig) × (List V_api_Block) × Unit × Int × Int × Int × Int × Unit) × Unit) ⊕ Empty) :=
  cond (x.2.2.2.2.2.1)
    (some (.inl ((x.1.1, x.1.2.1, x.1.2.2.1, x.1.2.2.2.1, x.1.2.2.2.2.1, x.1.2.2.2.2.2.1, x.1.2.2.2.2.2.2.1, (), x.2.1, x.2.2.1, x.2.2.2.1, x.2.2.2.2.1, ()), ())))
    (some (.inl ((x.1.1, x.1.2.1, x.1.2.2.1, x.1.2.2.2.1, x.1.2.2.2.2.1, x.1.2.2.2.2.2.1, x.1.2.2.2.2.2.2.1, (), x.1.2.2.2.2.2.2.2.2.1, x.1.2.2.2.2.2.2.2.2.2.1, x.1.2.2.2.2.2.2.2.2.2.2.1, x.1.2.2.2.2.2.2.2.2.2.2.2.1, ()), ())))
noncomputable def valid_checker_wrong_p0_j49 : LCtr := ⟨[0, 1, 2, 3, 4, 24], (.cons (.ptr (.cons (.val (.int .i64)) (.cons (.val (.int .i64)) (.cons (.val (.lst t_easementref08_Pair)) (.cons (.val (.lst t_api_Type)) (.cons (.val (.lst t_api_Slot)) (.cons (.val (.lst t_api_Sig)) (.cons (.val (.lst t_api_Block)) (.cons (.cst true) (.cons (.val (.int .i64)) (.cons (.val (.int .i64)) (.cons (.val (.int .i64)) (.cons (.val (.int .i64)) .nil))))))))))))) (.cons (.val (.int .i64)) (.cons (.val (.int .i64)) (.cons (.val (.int .i64)) (.cons (.val (.int .i64)) (.cons (.val .bool) .nil)))))), [], [0, 1, 2, 3, 4], [⟨.normal, [0], (.cons (.ptr (.cons (.val (.int .i64)) (.cons (.val (.int .i64)) (.cons (.val (.lst t_easementref08_Pair)) (.cons (.val (.lst t_api_Type)) (.cons (.val (.lst t_api_Slot)) (.cons (.val (.lst t_api_Sig)) (.cons (.val (.lst t_api_Block)) (.cons (.cst true) (.cons (.val (.int .i64)) (.cons (.val (.int .i64)) (.cons (.val (.int .i64)) (.cons (.val (.int .i64)) .nil))))))))))))) .nil), [some 0]⟩], [], valid_checker_wrong_p0_j49_v⟩
noncomputable def valid_checker_wrong_p0_ls1 : List (Nat × LCtr) := (262193, valid_checker_wrong_p0_j49) :: valid_checker_wrong_p0_ls0
theorem valid_checker_wrong_p0_lsok1 : LsOK Try.prog Try.f109.ntmps valid_checker_wrong_p0_code valid_checker_wrong_p0_ls1 :=
  join_at (L := valid_checker_wrong_p0_j49) (fz := valid_checker_wrong_p0_fz) valid_checker_wrong_p0_fsok valid_checker_wrong_p0_isok valid_checker_wrong_p0_lsok0 (by kernel_rfl) (by kernel_rfl) (fun x => by kernel_rfl)
noncomputable def valid_checker_wrong_p0 (x : ((Int × Int × (List V_easementref08_Pair) × (List V_api_Type) × (List V_api_Slot) × (List V_api_Sig) × (List V_api_Block) × Unit × Int × Int × Int × Int × Unit) × Int × Int × Int × Int × Unit)) : Option (((Int × Int × (List V_easementref08_Pair) × (List V_api_Type) × (List V_api_Slot) × (List V_api_Sig) × (List V_api_Block) × Unit × Int × Int × Int × Int × Unit) × Unit) ⊕ Empty) :=
  Option.bind (tick_Counter_Add_p0 ((), (1 : Int), (1 : Int), ())) fun y1 => out1 y1
    (fun z2 =>
      Option.bind (valid_checker_wrong_p0_j49_v ((x.1.1, x.1.2.1, x.1.2.2.1, x.1.2.2.2.1, x.1.2.2.2.2.1, x.1.2.2.2.2.2.1, x.1.2.2.2.2.2.2.1, (), x.1.2.2.2.2.2.2.2.2.1, x.1.2.2.2.2.2.2.2.2.2.1, x.1.2.2.2.2.2.2.2.2.2.2.1, x.1.2.2.2.2.2.2.2.2.2.2.2.1, ()), x.2.1, x.2.2.1, x.2.2.2.1, x.2.2.2.2.1, cond (x.1.2.2.2.2.2.2.2.2.1 == (0 : Int)) (x.2.1 != (0 : Int)) false, ())) fun y3 => out1 y3
        (fun z4 =>
          some (.inl ((z4.1.1, z4.1.2.1, z4.1.2.2.1, z4.1.2.2.2.1, z4.1.2.2.2.2.1, z4.1.2.2.2.2.2.1, z4.1.2.2.2.2.2.2.1, (), z4.1.2.2.2.2.2.2.2.2.1, z4.1.2.2.2.2.2.2.2.2.2.1, z4.1.2.2.2.2.2.2.2.2.2.2.1, z4.1.2.2.2.2.2.2.2.2.2.2.2.1, ()), ()))))
noncomputable def valid_checker_wrong_p0_L : LCtr := ⟨[0, 1, 2, 3, 4], (.cons (.ptr (.cons (.val (.int .i64)) (.cons (.val (.int .i64)) (.cons (.val (.lst t_easementref08_Pair)) (.cons (.val (.lst t_api_Type)) (.cons (.val (.lst t_api_Slot)) (.cons (.val (.lst t_api_Sig)) (.cons (.val (.lst t_api_Block)) (.cons (.cst true) (.cons (.val (.int .i64)) (.cons (.val (.int .i64)) (.cons (.val (.int .i64)) (.cons (.val (.int .i64)) .nil))))))))))))) (.cons (.val (.int .i64)) (.cons (.val (.int .i64)) (.cons (.val (.int .i64)) (.cons (.val (.int .i64)) .nil))))), [], [], [⟨.normal, [0], (.cons (.ptr (.cons (.val (.int .i64)) (.cons (.val (.int .i64)) (.cons (.val (.lst t_easementref08_Pair)) (.cons (.val (.lst t_api_Type)) (.cons (.val (.lst t_api_Slot)) (.cons (.val (.lst t_api_Sig)) (.cons (.val (.lst t_api_Block)) (.cons (.cst true) (.cons (.val (.int .i64)) (.cons (.val (.int .i64)) (.cons (.val (.int .i64)) (.cons (.val (.int .i64)) .nil))))))))))))) .nil), [some 0]⟩], [], valid_checker_wrong_p0⟩
noncomputable def valid_checker_wrong_p0_c : PI := ⟨Try.f109.ntmps, valid_checker_wrong_p0_code, Try.f109.results.toList, valid_checker_wrong_p0_L⟩
theorem valid_checker_wrong_p0_ok : PIOK Try.prog 109 valid_checker_wrong_p0_c :=
  proc_at (L := valid_checker_wrong_p0_L) (fz := valid_checker_wrong_p0_fz) valid_checker_wrong_p0_fsok valid_checker_wrong_p0_isok Try.func109 (by kernel_rfl) (by kernel_rfl) valid_checker_wrong_p0_lsok1 (by kernel_rfl) (fun x => by kernel_rfl)
/-! ### easement/valid.many: function 110 -/
noncomputable def valid_many_code : Code := Try.f110.body.getD .skip
noncomputable def valid_many_fs : List (Nat × Ctr) := []
noncomputable def valid_many_is : List (Nat × List PI) := []
theorem valid_many_fsok : FsOK Try.prog valid_many_fs := trivial
theorem valid_many_isok : IsOK Try.prog valid_many_is := trivial
def valid_many_fz : List (Nat × List Nat) := []
noncomputable def valid_many_ls0 : List (Nat × LCtr) := []
theorem valid_many_lsok0 : LsOK Try.prog Try.f110.ntmps valid_many_code valid_many_ls0 := trivial
noncomputable def valid_many (x : (Int × Unit)) : Option (Int × Unit) :=
  cond (decide (x.1 > (65536 : Int)))
    (some ((6 : Int), ()))
    (some ((0 : Int), ()))
noncomputable def valid_many_c : Ctr := ⟨(.cons (.int .i64) .nil), (.cons (.int .i64) .nil), valid_many, none⟩
theorem valid_many_ok : CtrOK Try.prog 110 valid_many_c :=
  fun_at (fz := valid_many_fz) valid_many_fsok valid_many_isok Try.func110 (by kernel_rfl) (c := valid_many_code) (by kernel_rfl) valid_many_lsok0 (by kernel_rfl) (fun x => by kernel_rfl)
/-! ### (*easement/valid.checker).head: function 93, at objects -/
noncomputable def valid_checker_head_p0_code : Code := Try.f93.body.getD .skip
noncomputable def valid_checker_head_p0_fs : List (Nat × Ctr) := [(110, valid_many_c)]
noncomputable def valid_checker_head_p0_is : List (Nat × List PI) := [(109, [valid_checker_wrong_p0_c])]
theorem valid_checker_head_p0_fsok : FsOK Try.prog valid_checker_head_p0_fs := ⟨valid_many_ok, trivial⟩
theorem valid_checker_head_p0_isok : IsOK Try.prog valid_checker_head_p0_is := ⟨⟨valid_checker_wrong_p0_ok, trivial⟩, trivial⟩
def valid_checker_head_p0_fz : List (Nat × List Nat) := []
noncomputable def valid_checker_head_p0_ls0 : List (Nat × LCtr) := []
theorem valid_checker_head_p0_lsok0 : LsOK Try.prog Try.f93.ntmps valid_checker_head_p0_code valid_checker_head_p0_ls0 := trivial
noncomputable def valid_checker_head_p0_j29_v (x : ((Int × Int × (List V_easementref08_Pair) × (List V_api_Type) × (List V_api_Slot) × (List V_api_Sig) × (List V_api_Block) × Unit × Int × Int × Int × Int × Unit) × (Int × Int × (List V_easementref08_Pair) × (List V_api_Type) × (List V_api_Slot) × (List V_api_Sig) × (List V_api_Block) × Unit) × Bool × Unit)) : Option (((Int × Int × (List V_easementref08_Pair) × (List V_api_Type) × (List V_api_Slot) × (List V_api_Sig) × (List V_api_Block) × Unit × Int × Int × Int × Int × Unit) × (Int × Int × (List V_easementref08_Pair) × (List V_api_Type) × (List V_api_Slot) × (List V_api_Sig) × (List V_api_Block) × Unit) × Unit) ⊕ Empty) :=
  cond (x.2.2.1)
    (Option.bind (valid_checker_wrong_p0 ((x.1.1, x.1.2.1, x.1.2.2.1, x.1.2.2.2.1, x.1.2.2.2.2.1, x.1.2.2.2.2.2.1, x.1.2.2.2.2.2.2.1, (), x.1.2.2.2.2.2.2.2.2.1, x.1.2.2.2.2.2.2.2.2.2.1, x.1.2.2.2.2.2.2.2.2.2.2.1, x.1.2.2.2.2.2.2.2.2.2.2.2.1, ()), (7 : Int), (0 : Int), (0 : Int), (0 : Int), ())) fun y1 => out1 y1
      (fun z2 =>
        some (.inl ((z2.1.1, z2.1.2.1, z2.1.2.2.1, z2.1.2.2.2.1, z2.1.2.2.2.2.1, z2.1.2.2.2.2.2.1, z2.1.2.2.2.2.2.2.1, (), z2.1.2.2.2.2.2.2.2.2.1, z2.1.2.2.2.2.2.2.2.2.2.1, z2.1.2.2.2.2.2.2.2.2.2.2.1, z2.1.2.2.2.2.2.2.2.2.2.2.2.1, ()), (x.2.1.1, x.2.1.2.1, x.2.1.2.2.1, x.2.1.2.2.2.1, x.2.1.2.2.2.2.1, x.2.1.2.2.2.2.2.1, x.2.1.2.2.2.2.2.2.1, ()), ()))))
    (Option.bind (valid_many (x.2.1.2.1, ())) fun y3 =>
    Option.bind (valid_checker_wrong_p0 ((x.1.1, x.1.2.1, x.1.2.2.1, x.1.2.2.2.1, x.1.2.2.2.2.1, x.1.2.2.2.2.2.1, x.1.2.2.2.2.2.2.1, (), x.1.2.2.2.2.2.2.2.2.1, x.1.2.2.2.2.2.2.2.2.2.1, x.1.2.2.2.2.2.2.2.2.2.2.1, x.1.2.2.2.2.2.2.2.2.2.2.2.1, ()), y3.1, (0 : Int), (0 : Int), (0 : Int), ())) fun y4 => out1 y4
      (fun z5 =>
        some (.inl ((z5.1.1, z5.1.2.1, z5.1.2.2.1, z5.1.2.2.2.1, z5.1.2.2.2.2.1, z5.1.2.2.2.2.2.1, z5.1.2.2.2.2.2.2.1, (), z5.1.2.2.2.2.2.2.2.2.1, z5.1.2.2.2.2.2.2.2.2.2.1, z5.1.2.2.2.2.2.2.2.2.2.2.1, z5.1.2.2.2.2.2.2.2.2.2.2.2.1, ()), (x.2.1.1, x.2.1.2.1, x.2.1.2.2.1, x.2.1.2.2.2.1, x.2.1.2.2.2.2.1, x.2.1.2.2.2.2.2.1, x.2.1.2.2.2.2.2.2.1, ()), ()))))
noncomputable def valid_checker_head_p0_j29 : LCtr := ⟨[0, 2, 14], (.cons (.ptr (.cons (.val (.int .i64)) (.cons (.val (.int .i64)) (.cons (.val (.lst t_easementref08_Pair)) (.cons (.val (.lst t_api_Type)) (.cons (.val (.lst t_api_Slot)) (.cons (.val (.lst t_api_Sig)) (.cons (.val (.lst t_api_Block)) (.cons (.cst true) (.cons (.val (.int .i64)) (.cons (.val (.int .i64)) (.cons (.val (.int .i64)) (.cons (.val (.int .i64)) .nil))))))))))))) (.cons (.ptr (.cons (.val (.int .i64)) (.cons (.val (.int .i64)) (.cons (.val (.lst t_easementref08_Pair)) (.cons (.val (.lst t_api_Type)) (.cons (.val (.lst t_api_Slot)) (.cons (.val (.lst t_api_Sig)) (.cons (.val (.lst t_api_Block)) .nil)))))))) (.cons (.val .bool) .nil))), [], [0, 2], [⟨.normal, [0, 2], (.cons (.ptr (.cons (.val (.int .i64)) (.cons (.val (.int .i64)) (.cons (.val (.lst t_easementref08_Pair)) (.cons (.val (.lst t_api_Type)) (.cons (.val (.lst t_api_Slot)) (.cons (.val (.lst t_api_Sig)) (.cons (.val (.lst t_api_Block)) (.cons (.cst true) (.cons (.val (.int .i64)) (.cons (.val (.int .i64)) (.cons (.val (.int .i64)) (.cons (.val (.int .i64)) .nil))))))))))))) (.cons (.ptr (.cons (.val (.int .i64)) (.cons (.val (.int .i64)) (.cons (.val (.lst t_easementref08_Pair)) (.cons (.val (.lst t_api_Type)) (.cons (.val (.lst t_api_Slot)) (.cons (.val (.lst t_api_Sig)) (.cons (.val (.lst t_api_Block)) .nil)))))))) .nil)), [some 0, some 1]⟩], [], valid_checker_head_p0_j29_v⟩
noncomputable def valid_checker_head_p0_ls1 : List (Nat × LCtr) := (8590327837, valid_checker_head_p0_j29) :: valid_checker_head_p0_ls0
theorem valid_checker_head_p0_lsok1 : LsOK Try.prog Try.f93.ntmps valid_checker_head_p0_code valid_checker_head_p0_ls1 :=
  join_at (L := valid_checker_head_p0_j29) (fz := valid_checker_head_p0_fz) valid_checker_head_p0_fsok valid_checker_head_p0_isok valid_checker_head_p0_lsok0 (by kernel_rfl) (by kernel_rfl) (fun x => by kernel_rfl)
noncomputable def valid_checker_head_p0_j125_v (x : ((Int × Int × (List V_easementref08_Pair) × (List V_api_Type) × (List V_api_Slot) × (List V_api_Sig) × (List V_api_Block) × Unit × Int × Int × Int × Int × Unit) × Int × Bool × Unit)) : Option (((Int × Int × (List V_easementref08_Pair) × (List V_api_Type) × (List V_api_Slot) × (List V_api_Sig) × (List V_api_Block) × Unit × Int × Int × Int × Int × Unit) × Unit) ⊕ Empty) :=
  cond (x.2.2.1)
    (Option.bind (valid_checker_wrong_p0 ((x.1.1, x.1.2.1, x.1.2.2.1, x.1.2.2.2.1, x.1.2.2.2.2.1, x.1.2.2.2.2.2.1, x.1.2.2.2.2.2.2.1, (), x.1.2.2.2.2.2.2.2.2.1, x.1.2.2.2.2.2.2.2.2.2.1, x.1.2.2.2.2.2.2.2.2.2.2.1, x.1.2.2.2.2.2.2.2.2.2.2.2.1, ()), (7 : Int), (1 : Int), x.2.1, (0 : Int), ())) fun y11 => out1 y11
      (fun z12 =>
        some (.inl ((z12.1.1, z12.1.2.1, z12.1.2.2.1, z12.1.2.2.2.1, z12.1.2.2.2.2.1, z12.1.2.2.2.2.2.1, z12.1.2.2.2.2.2.2.1, (), z12.1.2.2.2.2.2.2.2.2.1, z12.1.2.2.2.2.2.2.2.2.2.1, z12.1.2.2.2.2.2.2.2.2.2.2.1, z12.1.2.2.2.2.2.2.2.2.2.2.2.1, ()), ()))))
    (some (.inl ((x.1.1, x.1.2.1, x.1.2.2.1, x.1.2.2.2.1, x.1.2.2.2.2.1, x.1.2.2.2.2.2.1, x.1.2.2.2.2.2.2.1, (), x.1.2.2.2.2.2.2.2.2.1, x.1.2.2.2.2.2.2.2.2.2.1, x.1.2.2.2.2.2.2.2.2.2.2.1, x.1.2.2.2.2.2.2.2.2.2.2.2.1, ()), ())))
noncomputable def valid_checker_head_p0_j125 : LCtr := ⟨[0, 3, 62], (.cons (.ptr (.cons (.val (.int .i64)) (.cons (.val (.int .i64)) (.cons (.val (.lst t_easementref08_Pair)) (.cons (.val (.lst t_api_Type)) (.cons (.val (.lst t_api_Slot)) (.cons (.val (.lst t_api_Sig)) (.cons (.val (.lst t_api_Block)) (.cons (.cst true) (.cons (.val (.int .i64)) (.cons (.val (.int .i64)) (.cons (.val (.int .i64)) (.cons (.val (.int .i64)) .nil))))))))))))) (.cons (.val (.int .i64)) (.cons (.val .bool) .nil))), [], [0, 2, 34, 35, 36], [⟨.normal, [0], (.cons (.ptr (.cons (.val (.int .i64)) (.cons (.val (.int .i64)) (.cons (.val (.lst t_easementref08_Pair)) (.cons (.val (.lst t_api_Type)) (.cons (.val (.lst t_api_Slot)) (.cons (.val (.lst t_api_Sig)) (.cons (.val (.lst t_api_Block)) (.cons (.cst true) (.cons (.val (.int .i64)) (.cons (.val (.int .i64)) (.cons (.val (.int .i64)) (.cons (.val (.int .i64)) .nil))))))))))))) .nil), [some 0]⟩], [], valid_checker_head_p0_j125_v⟩
noncomputable def valid_checker_head_p0_ls2 : List (Nat × LCtr) := (1179773, valid_checker_head_p0_j125) :: valid_checker_head_p0_ls1
theorem valid_checker_head_p0_lsok2 : LsOK Try.prog Try.f93.ntmps valid_checker_head_p0_code valid_checker_head_p0_ls2 :=
  join_at (L := valid_checker_head_p0_j125) (fz := valid_checker_head_p0_fz) valid_checker_head_p0_fsok valid_checker_head_p0_isok valid_checker_head_p0_lsok1 (by kernel_rfl) (by kernel_rfl) (fun x => by kernel_rfl)
noncomputable def valid_checker_head_p0_l12_step (g : ((Int × Int × (List V_easementref08_Pair) × (List V_api_Type) × (List V_api_Slot) × (List V_api_Sig) × (List V_api_Block) × Unit × Int × Int × Int × Int × Unit) × (Int × Int × (List V_easementref08_Pair) × (List V_api_Type) × (List V_api_Slot) × (List V_api_Sig) × (List V_api_Block) × Unit) × (List V_easementref08_Pair) × Int × Int × Unit) → Option (((Int × Int × (List V_easementref08_Pair) × (List V_api_Type) × (List V_api_Slot) × (List V_api_Sig) × (List V_api_Block) × Unit × Int × Int × Int × Int × Unit) × (Int × Int × (List V_easementref08_Pair) × (List V_api_Type) × (List V_api_Slot) × (List V_api_Sig) × (List V_api_Block) × Unit) × Unit) ⊕ Empty)) (x : ((Int × Int × (List V_easementref08_Pair) × (List V_api_Type) × (List V_api_Slot) × (List V_api_Sig) × (List V_api_Block) × Unit × Int × Int × Int × Int × Unit) × (Int × Int × (List V_easementref08_Pair) × (List V_api_Type) × (List V_api_Slot) × (List V_api_Sig) × (List V_api_Block) × Unit) × (List V_easementref08_Pair) × Int × Int × Unit)) : Option (((Int × Int × (List V_easementref08_Pair) × (List V_api_Type) × (List V_api_Slot) × (List V_api_Sig) × (List V_api_Block) × Unit × Int × Int × Int × Int × Unit) × (Int × Int × (List V_easementref08_Pair) × (List V_api_Type) × (List V_api_Slot) × (List V_api_Sig) × (List V_api_Block) × Unit) × Unit) ⊕ Empty) :=
  cond (decide (x.2.2.2.2.1 < x.2.2.2.1))
    (ck (inB x.2.2.2.2.1 (x.2.2.1.length)) <|
    let v1 := rdL t_easementref08_Pair x.2.2.1 x.2.2.2.2.1
    Option.bind (valid_checker_head_p0_j125_v ((x.1.1, x.1.2.1, x.1.2.2.1, x.1.2.2.2.1, x.1.2.2.2.2.1, x.1.2.2.2.2.2.1, x.1.2.2.2.2.2.2.1, (), x.1.2.2.2.2.2.2.2.2.1, x.1.2.2.2.2.2.2.2.2.2.1, x.1.2.2.2.2.2.2.2.2.2.2.1, x.1.2.2.2.2.2.2.2.2.2.2.2.1, ()), x.2.2.2.2.1, cond (cond (cond (decide (v1.1 < (0 : Int))) true (decide (v1.1 ≥ x.2.1.1))) true (decide (v1.2.1 < (0 : Int)))) true (decide (v1.2.1 ≥ x.2.1.1)), ())) fun y13 => out1 y13
      (fun z14 =>
        g ((z14.1.1, z14.1.2.1, z14.1.2.2.1, z14.1.2.2.2.1, z14.1.2.2.2.2.1, z14.1.2.2.2.2.2.1, z14.1.2.2.2.2.2.2.1, (), z14.1.2.2.2.2.2.2.2.2.1, z14.1.2.2.2.2.2.2.2.2.2.1, z14.1.2.2.2.2.2.2.2.2.2.2.1, z14.1.2.2.2.2.2.2.2.2.2.2.2.1, ()), (x.2.1.1, x.2.1.2.1, x.2.1.2.2.1, x.2.1.2.2.2.1, x.2.1.2.2.2.2.1, x.2.1.2.2.2.2.2.1, x.2.1.2.2.2.2.2.2.1, ()), x.2.2.1, x.2.2.2.1, IntKind.i64.wrap (x.2.2.2.2.1 + (1 : Int)), ())))
    (some (.inl ((x.1.1, x.1.2.1, x.1.2.2.1, x.1.2.2.2.1, x.1.2.2.2.2.1, x.1.2.2.2.2.2.1, x.1.2.2.2.2.2.2.1, (), x.1.2.2.2.2.2.2.2.2.1, x.1.2.2.2.2.2.2.2.2.2.1, x.1.2.2.2.2.2.2.2.2.2.2.1, x.1.2.2.2.2.2.2.2.2.2.2.2.1, ()), (x.2.1.1, x.2.1.2.1, x.2.1.2.2.1, x.2.1.2.2.2.1, x.2.1.2.2.2.2.1, x.2.1.2.2.2.2.2.1, x.2.1.2.2.2.2.2.2.1, ()), ())))
noncomputable def valid_checker_head_p0_l12 : LCtr := ⟨[0, 2, 34, 35, 36], (.cons (.ptr (.cons (.val (.int .i64)) (.cons (.val (.int .i64)) (.cons (.val (.lst t_easementref08_Pair)) (.cons (.val (.lst t_api_Type)) (.cons (.val (.lst t_api_Slot)) (.cons (.val (.lst t_api_Sig)) (.cons (.val (.lst t_api_Block)) (.cons (.cst true) (.cons (.val (.int .i64)) (.cons (.val (.int .i64)) (.cons (.val (.int .i64)) (.cons (.val (.int .i64)) .nil))))))))))))) (.cons (.ptr (.cons (.val (.int .i64)) (.cons (.val (.int .i64)) (.cons (.val (.lst t_easementref08_Pair)) (.cons (.val (.lst t_api_Type)) (.cons (.val (.lst t_api_Slot)) (.cons (.val (.lst t_api_Sig)) (.cons (.val (.lst t_api_Block)) .nil)))))))) (.cons (.val (.lst t_easementref08_Pair)) (.cons (.val (.int .i64)) (.cons (.val (.int .i64)) .nil))))), [some 0, some 1], [0], [⟨(.exit 1), [0, 2], (.cons (.ptr (.cons (.val (.int .i64)) (.cons (.val (.int .i64)) (.cons (.val (.lst t_easementref08_Pair)) (.cons (.val (.lst t_api_Type)) (.cons (.val (.lst t_api_Slot)) (.cons (.val (.lst t_api_Sig)) (.cons (.val (.lst t_api_Block)) (.cons (.cst true) (.cons (.val (.int .i64)) (.cons (.val (.int .i64)) (.cons (.val (.int .i64)) (.cons (.val (.int .i64)) .nil))))))))))))) (.cons (.ptr (.cons (.val (.int .i64)) (.cons (.val (.int .i64)) (.cons (.val (.lst t_easementref08_Pair)) (.cons (.val (.lst t_api_Type)) (.cons (.val (.lst t_api_Slot)) (.cons (.val (.lst t_api_Sig)) (.cons (.val (.lst t_api_Block)) .nil)))))))) .nil)), [some 0, some 1]⟩], [], lim valid_checker_head_p0_l12_step⟩
noncomputable def valid_checker_head_p0_ls3 : List (Nat × LCtr) := (12, valid_checker_head_p0_l12) :: valid_checker_head_p0_ls2
theorem valid_checker_head_p0_lsok3 : LsOK Try.prog Try.f93.ntmps valid_checker_head_p0_code valid_checker_head_p0_ls3 :=
  loop_at (L := valid_checker_head_p0_l12) (fz := valid_checker_head_p0_fz) valid_checker_head_p0_fsok valid_checker_head_p0_isok valid_checker_head_p0_lsok2 (by kernel_rfl) (by kernel_rfl) (by kernel_rfl) (step := valid_checker_head_p0_l12_step) rfl (fun g x => by kernel_rfl)
noncomputable def valid_checker_head_p0 (x : ((Int × Int × (List V_easementref08_Pair) × (List V_api_Type) × (List V_api_Slot) × (List V_api_Sig) × (List V_api_Block) × Unit × Int × Int × Int × Int × Unit) × Unit)) : Option (((Int × Int × (List V_easementref08_Pair) × (List V_api_Type) × (List V_api_Slot) × (List V_api_Sig) × (List V_api_Block) × Unit × Int × Int × Int × Int × Unit) × Unit) ⊕ Empty) :=
  Option.bind (valid_checker_head_p0_j29_v ((x.1.1, x.1.2.1, x.1.2.2.1, x.1.2.2.2.1, x.1.2.2.2.2.1, x.1.2.2.2.2.2.1, x.1.2.2.2.2.2.2.1, (), x.1.2.2.2.2.2.2.2.2.1, x.1.2.2.2.2.2.2.2.2.2.1, x.1.2.2.2.2.2.2.2.2.2.2.1, x.1.2.2.2.2.2.2.2.2.2.2.2.1, ()), (x.1.1, x.1.2.1, x.1.2.2.1, x.1.2.2.2.1, x.1.2.2.2.2.1, x.1.2.2.2.2.2.1, x.1.2.2.2.2.2.2.1, ()), cond (decide (x.1.1 < (1 : Int))) true (decide (x.1.2.1 < x.1.1)), ())) fun y6 => out1 y6
    (fun z7 =>
      Option.bind (valid_many ((z7.2.1.2.2.1.length : Int), ())) fun y8 =>
      Option.bind (valid_checker_wrong_p0 ((z7.1.1, z7.1.2.1, z7.1.2.2.1, z7.1.2.2.2.1, z7.1.2.2.2.2.1, z7.1.2.2.2.2.2.1, z7.1.2.2.2.2.2.2.1, (), z7.1.2.2.2.2.2.2.2.2.1, z7.1.2.2.2.2.2.2.2.2.2.1, z7.1.2.2.2.2.2.2.2.2.2.2.1, z7.1.2.2.2.2.2.2.2.2.2.2.2.1, ()), y8.1, (1 : Int), (0 : Int), (0 : Int), ())) fun y9 => out1 y9
        (fun z10 =>
          Option.bind (lim valid_checker_head_p0_l12_step ((z10.1.1, z10.1.2.1, z10.1.2.2.1, z10.1.2.2.2.1, z10.1.2.2.2.2.1, z10.1.2.2.2.2.2.1, z10.1.2.2.2.2.2.2.1, (), z10.1.2.2.2.2.2.2.2.2.1, z10.1.2.2.2.2.2.2.2.2.2.1, z10.1.2.2.2.2.2.2.2.2.2.2.1, z10.1.2.2.2.2.2.2.2.2.2.2.2.1, ()), (z7.2.1.1, z7.2.1.2.1, z7.2.1.2.2.1, z7.2.1.2.2.2.1, z7.2.1.2.2.2.2.1, z7.2.1.2.2.2.2.2.1, z7.2.1.2.2.2.2.2.2.1, ()), z7.2.1.2.2.1, (z7.2.1.2.2.1.length : Int), (0 : Int), ())) fun y15 => out1 y15
            (fun z16 =>
              some (.inl ((z16.1.1, z16.1.2.1, z16.1.2.2.1, z16.1.2.2.2.1, z16.1.2.2.2.2.1, z16.1.2.2.2.2.2.1, z16.1.2.2.2.2.2.2.1, (), z16.1.2.2.2.2.2.2.2.2.1, z16.1.2.2.2.2.2.2.2.2.2.1, z16.1.2.2.2.2.2.2.2.2.2.2.1, z16.1.2.2.2.2.2.2.2.2.2.2.2.1, ()), ())))))
noncomputable def valid_checker_head_p0_L : LCtr := ⟨[0], (.cons (.ptr (.cons (.val (.int .i64)) (.cons (.val (.int .i64)) (.cons (.val (.lst t_easementref08_Pair)) (.cons (.val (.lst t_api_Type)) (.cons (.val (.lst t_api_Slot)) (.cons (.val (.lst t_api_Sig)) (.cons (.val (.lst t_api_Block)) (.cons (.cst true) (.cons (.val (.int .i64)) (.cons (.val (.int .i64)) (.cons (.val (.int .i64)) (.cons (.val (.int .i64)) .nil))))))))))))) .nil), [], [], [⟨.normal, [0], (.cons (.ptr (.cons (.val (.int .i64)) (.cons (.val (.int .i64)) (.cons (.val (.lst t_easementref08_Pair)) (.cons (.val (.lst t_api_Type)) (.cons (.val (.lst t_api_Slot)) (.cons (.val (.lst t_api_Sig)) (.cons (.val (.lst t_api_Block)) (.cons (.cst true) (.cons (.val (.int .i64)) (.cons (.val (.int .i64)) (.cons (.val (.int .i64)) (.cons (.val (.int .i64)) .nil))))))))))))) .nil), [some 0]⟩], [], valid_checker_head_p0⟩
noncomputable def valid_checker_head_p0_c : PI := ⟨Try.f93.ntmps, valid_checker_head_p0_code, Try.f93.results.toList, valid_checker_head_p0_L⟩
theorem valid_checker_head_p0_ok : PIOK Try.prog 93 valid_checker_head_p0_c :=
  proc_at (L := valid_checker_head_p0_L) (fz := valid_checker_head_p0_fz) valid_checker_head_p0_fsok valid_checker_head_p0_isok Try.func93 (by kernel_rfl) (by kernel_rfl) valid_checker_head_p0_lsok3 (by kernel_rfl) (fun x => by kernel_rfl)
/-! ### easement/valid.some: function 111 -/
noncomputable def valid_some_code : Code := Try.f111.body.getD .skip
noncomputable def valid_some_fs : List (Nat × Ctr) := [(110, valid_many_c)]
noncomputable def valid_some_is : List (Nat × List PI) := []
theorem valid_some_fsok : FsOK Try.prog valid_some_fs := ⟨valid_many_ok, trivial⟩
theorem valid_some_isok : IsOK Try.prog valid_some_is := trivial
def valid_some_fz : List (Nat × List Nat) := []
noncomputable def valid_some_ls0 : List (Nat × LCtr) := []
theorem valid_some_lsok0 : LsOK Try.prog Try.f111.ntmps valid_some_code valid_some_ls0 := trivial
noncomputable def valid_some (x : (Int × Unit)) : Option (Int × Unit) :=
  cond (x.1 == (0 : Int))
    (some ((14 : Int), ()))
    (Option.bind (valid_many (x.1, ())) fun y1 =>
    some (y1.1, ()))
noncomputable def valid_some_c : Ctr := ⟨(.cons (.int .i64) .nil), (.cons (.int .i64) .nil), valid_some, none⟩
theorem valid_some_ok : CtrOK Try.prog 111 valid_some_c :=
  fun_at (fz := valid_some_fz) valid_some_fsok valid_some_isok Try.func111 (by kernel_rfl) (c := valid_some_code) (by kernel_rfl) valid_some_lsok0 (by kernel_rfl) (fun x => by kernel_rfl)
/-! ### easement/row.Check: function 42 -/
noncomputable def row_Check_code : Code := Try.f42.body.getD .skip
noncomputable def row_Check_fs : List (Nat × Ctr) := []
noncomputable def row_Check_is : List (Nat × List PI) := []
theorem row_Check_fsok : FsOK Try.prog row_Check_fs := trivial
theorem row_Check_isok : IsOK Try.prog row_Check_is := trivial
def row_Check_fz : List (Nat × List Nat) := []
noncomputable def row_Check_ls0 : List (Nat × LCtr) := []
theorem row_Check_lsok0 : LsOK Try.prog Try.f42.ntmps row_Check_code row_Check_ls0 := trivial
noncomputable def row_Check_l8_step (g : (Int × (List V_api_Slot) × Int × Int × Unit) → Option ((Int × Unit) ⊕ (Unit ⊕ Empty))) (x : (Int × (List V_api_Slot) × Int × Int × Unit)) : Option ((Int × Unit) ⊕ (Unit ⊕ Empty)) :=
  cond (decide (x.2.2.2.1 < x.2.2.1))
    (ck (inB x.2.2.2.1 (x.2.1.length)) <|
    let v1 := (rdL t_api_Slot x.2.1 x.2.2.2.1).1
    cond (cond (decide (v1 < (0 : Int))) true (decide (v1 ≥ x.1)))
      (some (.inl ((7 : Int), ())))
      (g (x.1, x.2.1, x.2.2.1, IntKind.i64.wrap (x.2.2.2.1 + (1 : Int)), ())))
    (some (.inr (.inl ())))
noncomputable def row_Check_l8 : LCtr := ⟨[1, 12, 13, 14], (.cons (.val (.int .i64)) (.cons (.val (.lst t_api_Slot)) (.cons (.val (.int .i64)) (.cons (.val (.int .i64)) .nil)))), [], [], [⟨.ret, [4], (.cons (.val (.int .i64)) .nil), []⟩, ⟨(.exit 0), [], .nil, []⟩], [], lim row_Check_l8_step⟩
noncomputable def row_Check_ls1 : List (Nat × LCtr) := (8, row_Check_l8) :: row_Check_ls0
theorem row_Check_lsok1 : LsOK Try.prog Try.f42.ntmps row_Check_code row_Check_ls1 :=
  loop_at (L := row_Check_l8) (fz := row_Check_fz) row_Check_fsok row_Check_isok row_Check_lsok0 (by kernel_rfl) (by kernel_rfl) (by kernel_rfl) (step := row_Check_l8_step) rfl (fun g x => by kernel_rfl)
noncomputable def row_Check (x : (V_api_Type × Int × Unit)) : Option (Int × Unit) :=
  cond (decide ((x.1.1.length : Int) > (16 : Int)))
    (some ((6 : Int), ()))
    (Option.bind (lim row_Check_l8_step (x.2.1, x.1.1, (x.1.1.length : Int), (0 : Int), ())) fun y1 => out2 y1
      (fun z2 =>
        some (z2.1, ()))
      (fun z3 =>
        some ((0 : Int), ())))
noncomputable def row_Check_c : Ctr := ⟨(.cons t_api_Type (.cons (.int .i64) .nil)), (.cons (.int .i64) .nil), row_Check, none⟩
theorem row_Check_ok : CtrOK Try.prog 42 row_Check_c :=
  fun_at (fz := row_Check_fz) row_Check_fsok row_Check_isok Try.func42 (by kernel_rfl) (c := row_Check_code) (by kernel_rfl) row_Check_lsok1 (by kernel_rfl) (fun x => by kernel_rfl)
/-! ### easement/row.Shape$1: function 83 -/
noncomputable def row_Shape_1_code : Code := Try.f83.body.getD .skip
noncomputable def row_Shape_1_fs : List (Nat × Ctr) := []
noncomputable def row_Shape_1_is : List (Nat × List PI) := []
theorem row_Shape_1_fsok : FsOK Try.prog row_Shape_1_fs := trivial
theorem row_Shape_1_isok : IsOK Try.prog row_Shape_1_is := trivial
def row_Shape_1_fz : List (Nat × List Nat) := []
noncomputable def row_Shape_1_ls0 : List (Nat × LCtr) := []
theorem row_Shape_1_lsok0 : LsOK Try.prog Try.f83.ntmps row_Shape_1_code row_Shape_1_ls0 := trivial
noncomputable def row_Shape_1 (x : (V_api_Slot × V_api_Slot × Unit)) : Option (Bool × Unit) :=
  some (x.1.2.1 == x.2.1.2.1, ())
noncomputable def row_Shape_1_c : Ctr := ⟨(.cons t_api_Slot (.cons t_api_Slot .nil)), (.cons .bool .nil), row_Shape_1, none⟩
theorem row_Shape_1_ok : CtrOK Try.prog 83 row_Shape_1_c :=
  fun_at (fz := row_Shape_1_fz) row_Shape_1_fsok row_Shape_1_isok Try.func83 (by kernel_rfl) (c := row_Shape_1_code) (by kernel_rfl) row_Shape_1_lsok0 (by kernel_rfl) (fun x => by kernel_rfl)
/-! ### slices.EqualFunc[[]easement/api.Slot,[]easement/api.Slot,easement/api.Slot,easement/api.Slot]: function 82, at objects -/
noncomputable def slices_EqualFunc_82_p0_code : Code := Try.f82.body.getD .skip
noncomputable def slices_EqualFunc_82_p0_fs : List (Nat × Ctr) := [(83, row_Shape_1_c)]
noncomputable def slices_EqualFunc_82_p0_is : List (Nat × List PI) := []
theorem slices_EqualFunc_82_p0_fsok : FsOK Try.prog slices_EqualFunc_82_p0_fs := ⟨row_Shape_1_ok, trivial⟩
theorem slices_EqualFunc_82_p0_isok : IsOK Try.prog slices_EqualFunc_82_p0_is := trivial
def slices_EqualFunc_82_p0_fz : List (Nat × List Nat) := []
noncomputable def slices_EqualFunc_82_p0_ls0 : List (Nat × LCtr) := []
theorem slices_EqualFunc_82_p0_lsok0 : LsOK Try.prog Try.f82.ntmps slices_EqualFunc_82_p0_code slices_EqualFunc_82_p0_ls0 := trivial
noncomputable def slices_EqualFunc_82_p0_l8_step (g : ((List V_api_Slot) × Unit × (List V_api_Slot) × Int × Int × Unit) → Option ((Bool × Unit) ⊕ (Unit ⊕ Empty))) (x : ((List V_api_Slot) × Unit × (List V_api_Slot) × Int × Int × Unit)) : Option ((Bool × Unit) ⊕ (Unit ⊕ Empty)) :=
  cond (decide (x.2.2.2.2.1 < x.2.2.2.1))
    (ck (inB x.2.2.2.2.1 (x.2.2.1.length)) <|
    ck (inB x.2.2.2.2.1 (x.1.length)) <|
    let v1 := rdL t_api_Slot x.2.2.1 x.2.2.2.2.1
    let v2 := rdL t_api_Slot x.1 x.2.2.2.2.1
    Option.bind (row_Shape_1 ((v1.1, v1.2.1, ()), (v2.1, v2.2.1, ()), ())) fun y1 =>
    cond (!y1.1)
      (some (.inl (false, ())))
      (g (x.1, (), x.2.2.1, x.2.2.2.1, IntKind.i64.wrap (x.2.2.2.2.1 + (1 : Int)), ())))
    (some (.inr (.inl ())))
noncomputable def slices_EqualFunc_82_p0_l8 : LCtr := ⟨[1, 2, 15, 16, 17], (.cons (.val (.lst t_api_Slot)) (.cons (.clo 83 .nil) (.cons (.val (.lst t_api_Slot)) (.cons (.val (.int .i64)) (.cons (.val (.int .i64)) .nil))))), [], [0, 1, 2], [⟨.ret, [6], (.cons (.val .bool) .nil), []⟩, ⟨(.exit 0), [], .nil, []⟩], [], lim slices_EqualFunc_82_p0_l8_step⟩
noncomputable def slices_EqualFunc_82_p0_ls1 : List (Nat × LCtr) := (8, slices_EqualFunc_82_p0_l8) :: slices_EqualFunc_82_p0_ls0
theorem slices_EqualFunc_82_p0_lsok1 : LsOK Try.prog Try.f82.ntmps slices_EqualFunc_82_p0_code slices_EqualFunc_82_p0_ls1 :=
  loop_at (L := slices_EqualFunc_82_p0_l8) (fz := slices_EqualFunc_82_p0_fz) slices_EqualFunc_82_p0_fsok slices_EqualFunc_82_p0_isok slices_EqualFunc_82_p0_lsok0 (by kernel_rfl) (by kernel_rfl) (by kernel_rfl) (step := slices_EqualFunc_82_p0_l8_step) rfl (fun g x => by kernel_rfl)
noncomputable def slices_EqualFunc_82_p0 (x : ((List V_api_Slot) × (List V_api_Slot) × Unit × Unit)) : Option ((Bool × Unit) ⊕ Empty) :=
  cond ((x.1.length : Int) != (x.2.1.length : Int))
    (some (.inl (false, ())))
    (Option.bind (lim slices_EqualFunc_82_p0_l8_step (x.2.1, (), x.1, (x.1.length : Int), (0 : Int), ())) fun y2 => out2 y2
      (fun z3 =>
        some (.inl (z3.1, ())))
      (fun z4 =>
        some (.inl (true, ()))))
noncomputable def slices_EqualFunc_82_p0_L : LCtr := ⟨[0, 1, 2], (.cons (.val (.lst t_api_Slot)) (.cons (.val (.lst t_api_Slot)) (.cons (.clo 83 .nil) .nil))), [], [], [⟨.ret, [6], (.cons (.val .bool) .nil), []⟩], [], slices_EqualFunc_82_p0⟩
noncomputable def slices_EqualFunc_82_p0_c : PI := ⟨Try.f82.ntmps, slices_EqualFunc_82_p0_code, Try.f82.results.toList, slices_EqualFunc_82_p0_L⟩
theorem slices_EqualFunc_82_p0_ok : PIOK Try.prog 82 slices_EqualFunc_82_p0_c :=
  proc_at (L := slices_EqualFunc_82_p0_L) (fz := slices_EqualFunc_82_p0_fz) slices_EqualFunc_82_p0_fsok slices_EqualFunc_82_p0_isok Try.func82 (by kernel_rfl) (by kernel_rfl) slices_EqualFunc_82_p0_lsok1 (by kernel_rfl) (fun x => by kernel_rfl)
end Go.XD


