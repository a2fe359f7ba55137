/-
  No cell of these rows narrows 'for every input' (looked for: loops, veiled, ifaces, maps, wideKeys, modest, calm, conditions, laid).
  DERIVED. THE GIVEN ROWS OF THIS SEAT. 6 by the template 'for every input the law returns true; each argument reads behind the call as it read before'; 0 by the template 'total and deterministic' (their statements: YtpknfcdpknpgfaaGreatTotals.lean).
  GIVEN WITH THE SEED: the statements are not yours to turn. If you find one false, say at which input.
  Laid BY PROGRAM, IN A SANDBOX (cutbox-rows.mjs): the forced cells as the released guide's own fill.sh prints them over the translation 3c523bc2a3b9788c… (all of the seat's roots in one cut). By AI agents, Wed Nov 11 2026. No macro, syntax, notation, axiom, sorry.
-/
import Derived.Test.YtpknfcdpknpgfaaGreatChecked
import GoSem.Claim
import GoSem.ClaimJoined
import GoSem.ClaimMapViews
import Derived.JoinedTies
import Derived.KernelRfl
namespace Go.Proofs.YtpknfcdpknpgfaaGreat
/- THE CELL 'sum', in the pinned program and in every row, IS THE sha256 OF THE DUMP (.gsa) THAT YtpknfcdpknpgfaaGreatProg.lean LOADS. Nothing in Lean hashes anything: it is a label: what it is worth is what the hold of that sum in a sandbox is worth. -/
noncomputable def Tryz.pinned : Pinned := { name := "ytpknfcdpknpgfaagreat", sum := "3c523bc2a3b9788c27f20b0abf0eed9464950d55169f55b1125b1320bbe299a5", checked := Tryz.checked }
namespace Rows
def none {H : Type} : Left H := { results := [], args := [] }

/-- 'easementlaw24.TouchTells': WHATEVER THE INPUT: true; the input reads as it did. -/
def touchTellsSpec : ChangeSpec := { name := "touchTells", fn := fun _ => fun
  | [d1, d2] => { results := [.lit (.bool true)], args := [d1, d2] }
  | _ => none }
def touchTellsRow : OpenClaim := { program := "ytpknfcdpknpgfaagreat", sum := "3c523bc2a3b9788c27f20b0abf0eed9464950d55169f55b1125b1320bbe299a5", func := "easement/easementlaw24.TouchTells", spec := "touchTells", unfollowed := true, recurses := true, apart := false }
def TouchTellsSaid : Prop := touchTellsRow.holds Tryz.pinned (OpenSpec.ofChange touchTellsSpec)

/-- ITS FALSE NEIGHBOUR: 'it returns false'. Refute it at one input. -/
def touchTellsWrong : ChangeSpec := { name := "touchTells", fn := fun _ => fun
  | [d1, d2] => { results := [.lit (.bool false)], args := [d1, d2] }
  | _ => none }
def TouchTellsWrongFalsely : Prop := touchTellsRow.holds Tryz.pinned (OpenSpec.ofChange touchTellsWrong)

/-- 'easementlaw23.FlowOrders': WHATEVER THE INPUT: true; the input reads as it did. -/
def flowOrdersSpec : ChangeSpec := { name := "flowOrders", fn := fun _ => fun
  | [d] => { results := [.lit (.bool true)], args := [d] }
  | _ => none }
def flowOrdersRow : OpenClaim := { program := "ytpknfcdpknpgfaagreat", sum := "3c523bc2a3b9788c27f20b0abf0eed9464950d55169f55b1125b1320bbe299a5", func := "easement/easementlaw23.FlowOrders", spec := "flowOrders", unfollowed := true, recurses := true, apart := false }
def FlowOrdersSaid : Prop := flowOrdersRow.holds Tryz.pinned (OpenSpec.ofChange flowOrdersSpec)

/-- ITS FALSE NEIGHBOUR: 'it returns false'. Refute it at one input. -/
def flowOrdersWrong : ChangeSpec := { name := "flowOrders", fn := fun _ => fun
  | [d] => { results := [.lit (.bool false)], args := [d] }
  | _ => none }
def FlowOrdersWrongFalsely : Prop := flowOrdersRow.holds Tryz.pinned (OpenSpec.ofChange flowOrdersWrong)

/-- 'easementlaw23.FlowTells': WHATEVER THE INPUT: true; the input reads as it did. -/
def flowTellsSpec : ChangeSpec := { name := "flowTells", fn := fun _ => fun
  | [d1, d2] => { results := [.lit (.bool true)], args := [d1, d2] }
  | _ => none }
def flowTellsRow : OpenClaim := { program := "ytpknfcdpknpgfaagreat", sum := "3c523bc2a3b9788c27f20b0abf0eed9464950d55169f55b1125b1320bbe299a5", func := "easement/easementlaw23.FlowTells", spec := "flowTells", unfollowed := true, recurses := true, apart := false }
def FlowTellsSaid : Prop := flowTellsRow.holds Tryz.pinned (OpenSpec.ofChange flowTellsSpec)

/-- ITS FALSE NEIGHBOUR: 'it returns false'. Refute it at one input. -/
def flowTellsWrong : ChangeSpec := { name := "flowTells", fn := fun _ => fun
  | [d1, d2] => { results := [.lit (.bool false)], args := [d1, d2] }
  | _ => none }
def FlowTellsWrongFalsely : Prop := flowTellsRow.holds Tryz.pinned (OpenSpec.ofChange flowTellsWrong)

/-- 'easementlaw23.FlowTurns': WHATEVER THE INPUT: true; the input reads as it did. -/
def flowTurnsSpec : ChangeSpec := { name := "flowTurns", fn := fun _ => fun
  | [d] => { results := [.lit (.bool true)], args := [d] }
  | _ => none }
def flowTurnsRow : OpenClaim := { program := "ytpknfcdpknpgfaagreat", sum := "3c523bc2a3b9788c27f20b0abf0eed9464950d55169f55b1125b1320bbe299a5", func := "easement/easementlaw23.FlowTurns", spec := "flowTurns", unfollowed := true, recurses := true, apart := false }
def FlowTurnsSaid : Prop := flowTurnsRow.holds Tryz.pinned (OpenSpec.ofChange flowTurnsSpec)

/-- ITS FALSE NEIGHBOUR: 'it returns false'. Refute it at one input. -/
def flowTurnsWrong : ChangeSpec := { name := "flowTurns", fn := fun _ => fun
  | [d] => { results := [.lit (.bool false)], args := [d] }
  | _ => none }
def FlowTurnsWrongFalsely : Prop := flowTurnsRow.holds Tryz.pinned (OpenSpec.ofChange flowTurnsWrong)

/-- 'easementlaw41.EditTurns': WHATEVER THE INPUT: true; the input reads as it did. -/
def editTurnsSpec : ChangeSpec := { name := "editTurns", fn := fun _ => fun
  | [d1, d2, d3] => { results := [.lit (.bool true)], args := [d1, d2, d3] }
  | _ => none }
def editTurnsRow : OpenClaim := { program := "ytpknfcdpknpgfaagreat", sum := "3c523bc2a3b9788c27f20b0abf0eed9464950d55169f55b1125b1320bbe299a5", func := "easement/easementlaw41.EditTurns", spec := "editTurns", inPlace := ["internal/abi.NoEscape", "slices.overlaps[easement/api.Stmt]"], unfollowed := true, recurses := true, apart := false }
def EditTurnsSaid : Prop := editTurnsRow.holds Tryz.pinned (OpenSpec.ofChange editTurnsSpec)

/-- ITS FALSE NEIGHBOUR: 'it returns false'. Refute it at one input. -/
def editTurnsWrong : ChangeSpec := { name := "editTurns", fn := fun _ => fun
  | [d1, d2, d3] => { results := [.lit (.bool false)], args := [d1, d2, d3] }
  | _ => none }
def EditTurnsWrongFalsely : Prop := editTurnsRow.holds Tryz.pinned (OpenSpec.ofChange editTurnsWrong)

/-- 'easementlaw41.EditApplies': WHATEVER THE INPUT: true; the input reads as it did. -/
def editAppliesSpec : ChangeSpec := { name := "editApplies", fn := fun _ => fun
  | [d1, d2, d3] => { results := [.lit (.bool true)], args := [d1, d2, d3] }
  | _ => none }
def editAppliesRow : OpenClaim := { program := "ytpknfcdpknpgfaagreat", sum := "3c523bc2a3b9788c27f20b0abf0eed9464950d55169f55b1125b1320bbe299a5", func := "easement/easementlaw41.EditApplies", spec := "editApplies", inPlace := ["internal/abi.NoEscape", "slices.overlaps[easement/api.Stmt]"], unfollowed := true, recurses := true, apart := false }
def EditAppliesSaid : Prop := editAppliesRow.holds Tryz.pinned (OpenSpec.ofChange editAppliesSpec)

/-- ITS FALSE NEIGHBOUR: 'it returns false'. Refute it at one input. -/
def editAppliesWrong : ChangeSpec := { name := "editApplies", fn := fun _ => fun
  | [d1, d2, d3] => { results := [.lit (.bool false)], args := [d1, d2, d3] }
  | _ => none }
def EditAppliesWrongFalsely : Prop := editAppliesRow.holds Tryz.pinned (OpenSpec.ofChange editAppliesWrong)

/- THE SECOND FORM. 'bulk': how many values and letters a reading holds, each counted each time it is reached (what is shared counts as often as it is met; a slice's spare places count too). A statement '..UptoSaid' is the law's where the arguments, and the package variables that the reading takes, are together of bulk at most 1048576: NARROWER than '..Said'. Prove '..Said' where nothing that the law and all that it calls make is longer than what came in: it says more and counts as full. Else prove '..UptoSaid'. A law counts once. -/
mutual
def uptoBulk {H : Type} : DataW H → Nat
  | .lit (.string bytes) => bytes.length + 1
  | .lit _ => 1
  | .nil => 1
  | .ptr d => uptoBulk d + 1
  | .slice elems spare => uptoBulkAll elems + uptoBulkAll spare + 1
  | .agg parts => uptoBulkAll parts + 1
  | .iface _ d => uptoBulk d + 1
  | .map entries => uptoBulkEntries entries + 1
  | .held _ => 1
def uptoBulkAll {H : Type} : List (DataW H) → Nat
  | [] => 0
  | d :: r => uptoBulk d + uptoBulkAll r
def uptoBulkEntries {H : Type} : List (Lit × DataW H) → Nat
  | [] => 0
  | x :: r => uptoBulkEntry x + uptoBulkEntries r
def uptoBulkEntry {H : Type} : Lit × DataW H → Nat
  | (.string bytes, d) => bytes.length + uptoBulk d + 1
  | (_, d) => uptoBulk d + 1
 end
def uptoSmall : (H : Type) → List (DataW H) → Bool := fun _ ds => decide (uptoBulkAll ds ≤ 1048576)
def OpenSpec.upto (s : _root_.Go.ChangeSpec) : _root_.Go.OpenSpec := { _root_.Go.OpenSpec.ofChange s with cond := some uptoSmall }

/-- 'easementlaw24.TouchTells', WHERE WHAT IT READS IS OF BULK AT MOST 1048576: true; the input reads as it did. -/
def touchTellsUptoRow : OpenClaim := { program := "ytpknfcdpknpgfaagreat", sum := "3c523bc2a3b9788c27f20b0abf0eed9464950d55169f55b1125b1320bbe299a5", func := "easement/easementlaw24.TouchTells", spec := "touchTells", unfollowed := true, recurses := true, apart := false, narrowed := true }
def TouchTellsUptoSaid : Prop := touchTellsUptoRow.holds Tryz.pinned (OpenSpec.upto touchTellsSpec)

/-- 'easementlaw23.FlowOrders', WHERE WHAT IT READS IS OF BULK AT MOST 1048576: true; the input reads as it did. -/
def flowOrdersUptoRow : OpenClaim := { program := "ytpknfcdpknpgfaagreat", sum := "3c523bc2a3b9788c27f20b0abf0eed9464950d55169f55b1125b1320bbe299a5", func := "easement/easementlaw23.FlowOrders", spec := "flowOrders", unfollowed := true, recurses := true, apart := false, narrowed := true }
def FlowOrdersUptoSaid : Prop := flowOrdersUptoRow.holds Tryz.pinned (OpenSpec.upto flowOrdersSpec)

/-- 'easementlaw23.FlowTells', WHERE WHAT IT READS IS OF BULK AT MOST 1048576: true; the input reads as it did. -/
def flowTellsUptoRow : OpenClaim := { program := "ytpknfcdpknpgfaagreat", sum := "3c523bc2a3b9788c27f20b0abf0eed9464950d55169f55b1125b1320bbe299a5", func := "easement/easementlaw23.FlowTells", spec := "flowTells", unfollowed := true, recurses := true, apart := false, narrowed := true }
def FlowTellsUptoSaid : Prop := flowTellsUptoRow.holds Tryz.pinned (OpenSpec.upto flowTellsSpec)

/-- 'easementlaw23.FlowTurns', WHERE WHAT IT READS IS OF BULK AT MOST 1048576: true; the input reads as it did. -/
def flowTurnsUptoRow : OpenClaim := { program := "ytpknfcdpknpgfaagreat", sum := "3c523bc2a3b9788c27f20b0abf0eed9464950d55169f55b1125b1320bbe299a5", func := "easement/easementlaw23.FlowTurns", spec := "flowTurns", unfollowed := true, recurses := true, apart := false, narrowed := true }
def FlowTurnsUptoSaid : Prop := flowTurnsUptoRow.holds Tryz.pinned (OpenSpec.upto flowTurnsSpec)

/-- 'easementlaw41.EditTurns', WHERE WHAT IT READS IS OF BULK AT MOST 1048576: true; the input reads as it did. -/
def editTurnsUptoRow : OpenClaim := { program := "ytpknfcdpknpgfaagreat", sum := "3c523bc2a3b9788c27f20b0abf0eed9464950d55169f55b1125b1320bbe299a5", func := "easement/easementlaw41.EditTurns", spec := "editTurns", inPlace := ["internal/abi.NoEscape", "slices.overlaps[easement/api.Stmt]"], unfollowed := true, recurses := true, apart := false, narrowed := true }
def EditTurnsUptoSaid : Prop := editTurnsUptoRow.holds Tryz.pinned (OpenSpec.upto editTurnsSpec)

/-- 'easementlaw41.EditApplies', WHERE WHAT IT READS IS OF BULK AT MOST 1048576: true; the input reads as it did. -/
def editAppliesUptoRow : OpenClaim := { program := "ytpknfcdpknpgfaagreat", sum := "3c523bc2a3b9788c27f20b0abf0eed9464950d55169f55b1125b1320bbe299a5", func := "easement/easementlaw41.EditApplies", spec := "editApplies", inPlace := ["internal/abi.NoEscape", "slices.overlaps[easement/api.Stmt]"], unfollowed := true, recurses := true, apart := false, narrowed := true }
def EditAppliesUptoSaid : Prop := editAppliesUptoRow.holds Tryz.pinned (OpenSpec.upto editAppliesSpec)

end Rows
end Go.Proofs.YtpknfcdpknpgfaaGreat
