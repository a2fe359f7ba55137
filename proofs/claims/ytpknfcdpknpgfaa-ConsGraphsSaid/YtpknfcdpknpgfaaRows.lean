/-
  No cell of these rows narrows 'for every input' (looked for: loops, veiled, ifaces, maps, wideKeys, modest, calm, conditions, laid).
  DERIVED. THE GIVEN ROWS OF THIS SEAT. 5 by the template 'for every input the law returns true; each argument reads behind the call as it read before'; 0 by the template 'total and deterministic' (their statements: YtpknfcdpknpgfaaTotals.lean).
  GIVEN WITH THE SEED: the statements are not yours to turn. If you find one false, say at which input.
  Laid BY PROGRAM, IN A SANDBOX (cutbox-rows.mjs): the forced cells as the released guide's own fill.sh prints them over the translation 5fda6b9de00f9e4f… (all of the seat's roots in one cut). By AI agents, Wed Nov 11 2026. No macro, syntax, notation, axiom, sorry.
-/
import Derived.Test.YtpknfcdpknpgfaaChecked
import GoSem.Claim
import GoSem.ClaimJoined
import GoSem.ClaimMapViews
import Derived.JoinedTies
import Derived.KernelRfl
namespace Go.Proofs.Ytpknfcdpknpgfaa
/- THE CELL 'sum', in the pinned program and in every row, IS THE sha256 OF THE DUMP (.gsa) THAT YtpknfcdpknpgfaaProg.lean LOADS. Nothing in Lean hashes anything: it is a label: what it is worth is what the hold of that sum in a sandbox is worth. -/
noncomputable def Try.pinned : Pinned := { name := "ytpknfcdpknpgfaa", sum := "5fda6b9de00f9e4f6343a8fdddef6e4a27e484db271aa11f49636301545222e1", checked := Try.checked }
namespace Rows
def none {H : Type} : Left H := { results := [], args := [] }

/-- 'easementlaw27.ConsRise': WHATEVER THE INPUT: true; the input reads as it did. -/
def consRiseSpec : ChangeSpec := { name := "consRise", fn := fun _ => fun
  | [d1, d2, d3] => { results := [.lit (.bool true)], args := [d1, d2, d3] }
  | _ => none }
def consRiseRow : OpenClaim := { program := "ytpknfcdpknpgfaa", sum := "5fda6b9de00f9e4f6343a8fdddef6e4a27e484db271aa11f49636301545222e1", func := "easement/easementlaw27.ConsRise", spec := "consRise", unfollowed := true, recurses := true, apart := false }
def ConsRiseSaid : Prop := consRiseRow.holds Try.pinned (OpenSpec.ofChange consRiseSpec)

/-- ITS FALSE NEIGHBOUR: 'it returns false'. Refute it at one input. -/
def consRiseWrong : ChangeSpec := { name := "consRise", fn := fun _ => fun
  | [d1, d2, d3] => { results := [.lit (.bool false)], args := [d1, d2, d3] }
  | _ => none }
def ConsRiseWrongFalsely : Prop := consRiseRow.holds Try.pinned (OpenSpec.ofChange consRiseWrong)

/-- 'easementlaw27.ConsTells': WHATEVER THE INPUT: true; the input reads as it did. -/
def consTellsSpec : ChangeSpec := { name := "consTells", fn := fun _ => fun
  | [d1, d2] => { results := [.lit (.bool true)], args := [d1, d2] }
  | _ => none }
def consTellsRow : OpenClaim := { program := "ytpknfcdpknpgfaa", sum := "5fda6b9de00f9e4f6343a8fdddef6e4a27e484db271aa11f49636301545222e1", func := "easement/easementlaw27.ConsTells", spec := "consTells", unfollowed := true, recurses := true, apart := false }
def ConsTellsSaid : Prop := consTellsRow.holds Try.pinned (OpenSpec.ofChange consTellsSpec)

/-- ITS FALSE NEIGHBOUR: 'it returns false'. Refute it at one input. -/
def consTellsWrong : ChangeSpec := { name := "consTells", fn := fun _ => fun
  | [d1, d2] => { results := [.lit (.bool false)], args := [d1, d2] }
  | _ => none }
def ConsTellsWrongFalsely : Prop := consTellsRow.holds Try.pinned (OpenSpec.ofChange consTellsWrong)

/-- 'easementlaw27.ConsGraphs': WHATEVER THE INPUT: true; the input reads as it did. -/
def consGraphsSpec : ChangeSpec := { name := "consGraphs", fn := fun _ => fun
  | [d1, d2] => { results := [.lit (.bool true)], args := [d1, d2] }
  | _ => none }
def consGraphsRow : OpenClaim := { program := "ytpknfcdpknpgfaa", sum := "5fda6b9de00f9e4f6343a8fdddef6e4a27e484db271aa11f49636301545222e1", func := "easement/easementlaw27.ConsGraphs", spec := "consGraphs", unfollowed := true, recurses := true, apart := false }
def ConsGraphsSaid : Prop := consGraphsRow.holds Try.pinned (OpenSpec.ofChange consGraphsSpec)

/-- ITS FALSE NEIGHBOUR: 'it returns false'. Refute it at one input. -/
def consGraphsWrong : ChangeSpec := { name := "consGraphs", fn := fun _ => fun
  | [d1, d2] => { results := [.lit (.bool false)], args := [d1, d2] }
  | _ => none }
def ConsGraphsWrongFalsely : Prop := consGraphsRow.holds Try.pinned (OpenSpec.ofChange consGraphsWrong)

/-- 'easementlaw34.BoundLists': WHATEVER THE INPUT: true; the input reads as it did. -/
def boundListsSpec : ChangeSpec := { name := "boundLists", fn := fun _ => fun
  | [d1, d2, d3, d4, d5, d6] => { results := [.lit (.bool true)], args := [d1, d2, d3, d4, d5, d6] }
  | _ => none }
def boundListsRow : OpenClaim := { program := "ytpknfcdpknpgfaa", sum := "5fda6b9de00f9e4f6343a8fdddef6e4a27e484db271aa11f49636301545222e1", func := "easement/easementlaw34.BoundLists", spec := "boundLists", unfollowed := true, recurses := true, apart := false }
def BoundListsSaid : Prop := boundListsRow.holds Try.pinned (OpenSpec.ofChange boundListsSpec)

/-- ITS FALSE NEIGHBOUR: 'it returns false'. Refute it at one input. -/
def boundListsWrong : ChangeSpec := { name := "boundLists", fn := fun _ => fun
  | [d1, d2, d3, d4, d5, d6] => { results := [.lit (.bool false)], args := [d1, d2, d3, d4, d5, d6] }
  | _ => none }
def BoundListsWrongFalsely : Prop := boundListsRow.holds Try.pinned (OpenSpec.ofChange boundListsWrong)

/-- 'easementlaw24.TouchAgrees': WHATEVER THE INPUT: true; the input reads as it did. -/
def touchAgreesSpec : ChangeSpec := { name := "touchAgrees", fn := fun _ => fun
  | [d1, d2] => { results := [.lit (.bool true)], args := [d1, d2] }
  | _ => none }
def touchAgreesRow : OpenClaim := { program := "ytpknfcdpknpgfaa", sum := "5fda6b9de00f9e4f6343a8fdddef6e4a27e484db271aa11f49636301545222e1", func := "easement/easementlaw24.TouchAgrees", spec := "touchAgrees", unfollowed := true, recurses := true, apart := false }
def TouchAgreesSaid : Prop := touchAgreesRow.holds Try.pinned (OpenSpec.ofChange touchAgreesSpec)

/-- ITS FALSE NEIGHBOUR: 'it returns false'. Refute it at one input. -/
def touchAgreesWrong : ChangeSpec := { name := "touchAgrees", fn := fun _ => fun
  | [d1, d2] => { results := [.lit (.bool false)], args := [d1, d2] }
  | _ => none }
def TouchAgreesWrongFalsely : Prop := touchAgreesRow.holds Try.pinned (OpenSpec.ofChange touchAgreesWrong)

/- THE SECOND FORM. 'bulk': how many values and letters a reading holds, each counted each time it is reached (what is shared counts as often as it is met; a slice's spare places count too). A statement '..UptoSaid' is the law's where the arguments, and the package variables that the reading takes, are together of bulk at most 1048576: NARROWER than '..Said'. Prove '..Said' where nothing that the law and all that it calls make is longer than what came in: it says more and counts as full. Else prove '..UptoSaid'. A law counts once. -/
mutual
def uptoBulk {H : Type} : DataW H → Nat
  | .lit (.string bytes) => bytes.length + 1
  | .lit _ => 1
  | .nil => 1
  | .ptr d => uptoBulk d + 1
  | .slice elems spare => uptoBulkAll elems + uptoBulkAll spare + 1
  | .agg parts => uptoBulkAll parts + 1
  | .iface _ d => uptoBulk d + 1
  | .map entries => uptoBulkEntries entries + 1
  | .held _ => 1
def uptoBulkAll {H : Type} : List (DataW H) → Nat
  | [] => 0
  | d :: r => uptoBulk d + uptoBulkAll r
def uptoBulkEntries {H : Type} : List (Lit × DataW H) → Nat
  | [] => 0
  | x :: r => uptoBulkEntry x + uptoBulkEntries r
def uptoBulkEntry {H : Type} : Lit × DataW H → Nat
  | (.string bytes, d) => bytes.length + uptoBulk d + 1
  | (_, d) => uptoBulk d + 1
 end
def uptoSmall : (H : Type) → List (DataW H) → Bool := fun _ ds => decide (uptoBulkAll ds ≤ 1048576)
def OpenSpec.upto (s : _root_.Go.ChangeSpec) : _root_.Go.OpenSpec := { _root_.Go.OpenSpec.ofChange s with cond := some uptoSmall }

/-- 'easementlaw27.ConsRise', WHERE WHAT IT READS IS OF BULK AT MOST 1048576: true; the input reads as it did. -/
def consRiseUptoRow : OpenClaim := { program := "ytpknfcdpknpgfaa", sum := "5fda6b9de00f9e4f6343a8fdddef6e4a27e484db271aa11f49636301545222e1", func := "easement/easementlaw27.ConsRise", spec := "consRise", unfollowed := true, recurses := true, apart := false, narrowed := true }
def ConsRiseUptoSaid : Prop := consRiseUptoRow.holds Try.pinned (OpenSpec.upto consRiseSpec)

/-- 'easementlaw27.ConsTells', WHERE WHAT IT READS IS OF BULK AT MOST 1048576: true; the input reads as it did. -/
def consTellsUptoRow : OpenClaim := { program := "ytpknfcdpknpgfaa", sum := "5fda6b9de00f9e4f6343a8fdddef6e4a27e484db271aa11f49636301545222e1", func := "easement/easementlaw27.ConsTells", spec := "consTells", unfollowed := true, recurses := true, apart := false, narrowed := true }
def ConsTellsUptoSaid : Prop := consTellsUptoRow.holds Try.pinned (OpenSpec.upto consTellsSpec)

/-- 'easementlaw27.ConsGraphs', WHERE WHAT IT READS IS OF BULK AT MOST 1048576: true; the input reads as it did. -/
def consGraphsUptoRow : OpenClaim := { program := "ytpknfcdpknpgfaa", sum := "5fda6b9de00f9e4f6343a8fdddef6e4a27e484db271aa11f49636301545222e1", func := "easement/easementlaw27.ConsGraphs", spec := "consGraphs", unfollowed := true, recurses := true, apart := false, narrowed := true }
def ConsGraphsUptoSaid : Prop := consGraphsUptoRow.holds Try.pinned (OpenSpec.upto consGraphsSpec)

/-- 'easementlaw34.BoundLists', WHERE WHAT IT READS IS OF BULK AT MOST 1048576: true; the input reads as it did. -/
def boundListsUptoRow : OpenClaim := { program := "ytpknfcdpknpgfaa", sum := "5fda6b9de00f9e4f6343a8fdddef6e4a27e484db271aa11f49636301545222e1", func := "easement/easementlaw34.BoundLists", spec := "boundLists", unfollowed := true, recurses := true, apart := false, narrowed := true }
def BoundListsUptoSaid : Prop := boundListsUptoRow.holds Try.pinned (OpenSpec.upto boundListsSpec)

/-- 'easementlaw24.TouchAgrees', WHERE WHAT IT READS IS OF BULK AT MOST 1048576: true; the input reads as it did. -/
def touchAgreesUptoRow : OpenClaim := { program := "ytpknfcdpknpgfaa", sum := "5fda6b9de00f9e4f6343a8fdddef6e4a27e484db271aa11f49636301545222e1", func := "easement/easementlaw24.TouchAgrees", spec := "touchAgrees", unfollowed := true, recurses := true, apart := false, narrowed := true }
def TouchAgreesUptoSaid : Prop := touchAgreesUptoRow.holds Try.pinned (OpenSpec.upto touchAgreesSpec)

end Rows
end Go.Proofs.Ytpknfcdpknpgfaa
