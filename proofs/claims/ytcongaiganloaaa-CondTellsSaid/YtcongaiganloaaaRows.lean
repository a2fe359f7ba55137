/-
  No cell of these rows narrows 'for every input' (looked for: loops, veiled, ifaces, maps, wideKeys, modest, calm, conditions, laid).
  DERIVED. THE GIVEN ROWS OF THIS SEAT. 5 by the template 'for every input the law returns true; each argument reads behind the call as it read before'; 0 by the template 'total and deterministic' (their statements: YtcongaiganloaaaTotals.lean).
  GIVEN WITH THE SEED: the statements are not yours to turn. If you find one false, say at which input.
  Laid BY PROGRAM, IN A SANDBOX (cutbox-rows.mjs): the forced cells as the released guide's own fill.sh prints them over the translation bb91aa369b511041… (all of the seat's roots in one cut). By AI agents, Wed Nov 11 2026. No macro, syntax, notation, axiom, sorry.
-/
import Derived.Test.YtcongaiganloaaaChecked
import GoSem.Claim
import GoSem.ClaimJoined
import GoSem.ClaimMapViews
import Derived.JoinedTies
import Derived.KernelRfl
namespace Go.Proofs.Ytcongaiganloaaa
/- THE CELL 'sum', in the pinned program and in every row, IS THE sha256 OF THE DUMP (.gsa) THAT YtcongaiganloaaaProg.lean LOADS. Nothing in Lean hashes anything: it is a label: what it is worth is what the hold of that sum in a sandbox is worth. -/
noncomputable def Try.pinned : Pinned := { name := "ytcongaiganloaaa", sum := "bb91aa369b511041b158c27ef1d09c03075e931ab928635cfadf7de7614401c7", checked := Try.checked }
namespace Rows
def none {H : Type} : Left H := { results := [], args := [] }

/-- 'easementlaw11.SccOrder': WHATEVER THE INPUT: true; the input reads as it did. -/
def sccOrderSpec : ChangeSpec := { name := "sccOrder", fn := fun _ => fun
  | [d1, d2] => { results := [.lit (.bool true)], args := [d1, d2] }
  | _ => none }
def sccOrderRow : OpenClaim := { program := "ytcongaiganloaaa", sum := "bb91aa369b511041b158c27ef1d09c03075e931ab928635cfadf7de7614401c7", func := "easement/easementlaw11.SccOrder", spec := "sccOrder", unfollowed := true, recurses := true, apart := false }
def SccOrderSaid : Prop := sccOrderRow.holds Try.pinned (OpenSpec.ofChange sccOrderSpec)

/-- ITS FALSE NEIGHBOUR: 'it returns false'. Refute it at one input. -/
def sccOrderWrong : ChangeSpec := { name := "sccOrder", fn := fun _ => fun
  | [d1, d2] => { results := [.lit (.bool false)], args := [d1, d2] }
  | _ => none }
def SccOrderWrongFalsely : Prop := sccOrderRow.holds Try.pinned (OpenSpec.ofChange sccOrderWrong)

/-- 'easementlaw11.SccTurns': WHATEVER THE INPUT: true; the input reads as it did. -/
def sccTurnsSpec : ChangeSpec := { name := "sccTurns", fn := fun _ => fun
  | [d1, d2, d3] => { results := [.lit (.bool true)], args := [d1, d2, d3] }
  | _ => none }
def sccTurnsRow : OpenClaim := { program := "ytcongaiganloaaa", sum := "bb91aa369b511041b158c27ef1d09c03075e931ab928635cfadf7de7614401c7", func := "easement/easementlaw11.SccTurns", spec := "sccTurns", unfollowed := true, recurses := true, apart := false }
def SccTurnsSaid : Prop := sccTurnsRow.holds Try.pinned (OpenSpec.ofChange sccTurnsSpec)

/-- ITS FALSE NEIGHBOUR: 'it returns false'. Refute it at one input. -/
def sccTurnsWrong : ChangeSpec := { name := "sccTurns", fn := fun _ => fun
  | [d1, d2, d3] => { results := [.lit (.bool false)], args := [d1, d2, d3] }
  | _ => none }
def SccTurnsWrongFalsely : Prop := sccTurnsRow.holds Try.pinned (OpenSpec.ofChange sccTurnsWrong)

/-- 'easementlaw11.SccTells': WHATEVER THE INPUT: true; the input reads as it did. -/
def sccTellsSpec : ChangeSpec := { name := "sccTells", fn := fun _ => fun
  | [d1, d2, d3, d4, d5] => { results := [.lit (.bool true)], args := [d1, d2, d3, d4, d5] }
  | _ => none }
def sccTellsRow : OpenClaim := { program := "ytcongaiganloaaa", sum := "bb91aa369b511041b158c27ef1d09c03075e931ab928635cfadf7de7614401c7", func := "easement/easementlaw11.SccTells", spec := "sccTells", unfollowed := true, recurses := true, apart := false }
def SccTellsSaid : Prop := sccTellsRow.holds Try.pinned (OpenSpec.ofChange sccTellsSpec)

/-- ITS FALSE NEIGHBOUR: 'it returns false'. Refute it at one input. -/
def sccTellsWrong : ChangeSpec := { name := "sccTells", fn := fun _ => fun
  | [d1, d2, d3, d4, d5] => { results := [.lit (.bool false)], args := [d1, d2, d3, d4, d5] }
  | _ => none }
def SccTellsWrongFalsely : Prop := sccTellsRow.holds Try.pinned (OpenSpec.ofChange sccTellsWrong)

/-- 'easementlaw12.CondFalls': WHATEVER THE INPUT: true; the input reads as it did. -/
def condFallsSpec : ChangeSpec := { name := "condFalls", fn := fun _ => fun
  | [d1, d2] => { results := [.lit (.bool true)], args := [d1, d2] }
  | _ => none }
def condFallsRow : OpenClaim := { program := "ytcongaiganloaaa", sum := "bb91aa369b511041b158c27ef1d09c03075e931ab928635cfadf7de7614401c7", func := "easement/easementlaw12.CondFalls", spec := "condFalls", unfollowed := true, recurses := true, apart := false }
def CondFallsSaid : Prop := condFallsRow.holds Try.pinned (OpenSpec.ofChange condFallsSpec)

/-- ITS FALSE NEIGHBOUR: 'it returns false'. Refute it at one input. -/
def condFallsWrong : ChangeSpec := { name := "condFalls", fn := fun _ => fun
  | [d1, d2] => { results := [.lit (.bool false)], args := [d1, d2] }
  | _ => none }
def CondFallsWrongFalsely : Prop := condFallsRow.holds Try.pinned (OpenSpec.ofChange condFallsWrong)

/-- 'easementlaw12.CondTells': WHATEVER THE INPUT: true; the input reads as it did. -/
def condTellsSpec : ChangeSpec := { name := "condTells", fn := fun _ => fun
  | [d1, d2, d3] => { results := [.lit (.bool true)], args := [d1, d2, d3] }
  | _ => none }
def condTellsRow : OpenClaim := { program := "ytcongaiganloaaa", sum := "bb91aa369b511041b158c27ef1d09c03075e931ab928635cfadf7de7614401c7", func := "easement/easementlaw12.CondTells", spec := "condTells", unfollowed := true, recurses := true, apart := false }
def CondTellsSaid : Prop := condTellsRow.holds Try.pinned (OpenSpec.ofChange condTellsSpec)

/-- ITS FALSE NEIGHBOUR: 'it returns false'. Refute it at one input. -/
def condTellsWrong : ChangeSpec := { name := "condTells", fn := fun _ => fun
  | [d1, d2, d3] => { results := [.lit (.bool false)], args := [d1, d2, d3] }
  | _ => none }
def CondTellsWrongFalsely : Prop := condTellsRow.holds Try.pinned (OpenSpec.ofChange condTellsWrong)

/- THE SECOND FORM. 'bulk': how many values and letters a reading holds, each counted each time it is reached (what is shared counts as often as it is met; a slice's spare places count too). A statement '..UptoSaid' is the law's where the arguments, and the package variables that the reading takes, are together of bulk at most 1048576: NARROWER than '..Said'. Prove '..Said' where nothing that the law and all that it calls make is longer than what came in: it says more and counts as full. Else prove '..UptoSaid'. A law counts once. -/
mutual
def uptoBulk {H : Type} : DataW H → Nat
  | .lit (.string bytes) => bytes.length + 1
  | .lit _ => 1
  | .nil => 1
  | .ptr d => uptoBulk d + 1
  | .slice elems spare => uptoBulkAll elems + uptoBulkAll spare + 1
  | .agg parts => uptoBulkAll parts + 1
  | .iface _ d => uptoBulk d + 1
  | .map entries => uptoBulkEntries entries + 1
  | .held _ => 1
def uptoBulkAll {H : Type} : List (DataW H) → Nat
  | [] => 0
  | d :: r => uptoBulk d + uptoBulkAll r
def uptoBulkEntries {H : Type} : List (Lit × DataW H) → Nat
  | [] => 0
  | x :: r => uptoBulkEntry x + uptoBulkEntries r
def uptoBulkEntry {H : Type} : Lit × DataW H → Nat
  | (.string bytes, d) => bytes.length + uptoBulk d + 1
  | (_, d) => uptoBulk d + 1
 end
def uptoSmall : (H : Type) → List (DataW H) → Bool := fun _ ds => decide (uptoBulkAll ds ≤ 1048576)
def OpenSpec.upto (s : _root_.Go.ChangeSpec) : _root_.Go.OpenSpec := { _root_.Go.OpenSpec.ofChange s with cond := some uptoSmall }

/-- 'easementlaw11.SccOrder', WHERE WHAT IT READS IS OF BULK AT MOST 1048576: true; the input reads as it did. -/
def sccOrderUptoRow : OpenClaim := { program := "ytcongaiganloaaa", sum := "bb91aa369b511041b158c27ef1d09c03075e931ab928635cfadf7de7614401c7", func := "easement/easementlaw11.SccOrder", spec := "sccOrder", unfollowed := true, recurses := true, apart := false, narrowed := true }
def SccOrderUptoSaid : Prop := sccOrderUptoRow.holds Try.pinned (OpenSpec.upto sccOrderSpec)

/-- 'easementlaw11.SccTurns', WHERE WHAT IT READS IS OF BULK AT MOST 1048576: true; the input reads as it did. -/
def sccTurnsUptoRow : OpenClaim := { program := "ytcongaiganloaaa", sum := "bb91aa369b511041b158c27ef1d09c03075e931ab928635cfadf7de7614401c7", func := "easement/easementlaw11.SccTurns", spec := "sccTurns", unfollowed := true, recurses := true, apart := false, narrowed := true }
def SccTurnsUptoSaid : Prop := sccTurnsUptoRow.holds Try.pinned (OpenSpec.upto sccTurnsSpec)

/-- 'easementlaw11.SccTells', WHERE WHAT IT READS IS OF BULK AT MOST 1048576: true; the input reads as it did. -/
def sccTellsUptoRow : OpenClaim := { program := "ytcongaiganloaaa", sum := "bb91aa369b511041b158c27ef1d09c03075e931ab928635cfadf7de7614401c7", func := "easement/easementlaw11.SccTells", spec := "sccTells", unfollowed := true, recurses := true, apart := false, narrowed := true }
def SccTellsUptoSaid : Prop := sccTellsUptoRow.holds Try.pinned (OpenSpec.upto sccTellsSpec)

/-- 'easementlaw12.CondFalls', WHERE WHAT IT READS IS OF BULK AT MOST 1048576: true; the input reads as it did. -/
def condFallsUptoRow : OpenClaim := { program := "ytcongaiganloaaa", sum := "bb91aa369b511041b158c27ef1d09c03075e931ab928635cfadf7de7614401c7", func := "easement/easementlaw12.CondFalls", spec := "condFalls", unfollowed := true, recurses := true, apart := false, narrowed := true }
def CondFallsUptoSaid : Prop := condFallsUptoRow.holds Try.pinned (OpenSpec.upto condFallsSpec)

/-- 'easementlaw12.CondTells', WHERE WHAT IT READS IS OF BULK AT MOST 1048576: true; the input reads as it did. -/
def condTellsUptoRow : OpenClaim := { program := "ytcongaiganloaaa", sum := "bb91aa369b511041b158c27ef1d09c03075e931ab928635cfadf7de7614401c7", func := "easement/easementlaw12.CondTells", spec := "condTells", unfollowed := true, recurses := true, apart := false, narrowed := true }
def CondTellsUptoSaid : Prop := condTellsUptoRow.holds Try.pinned (OpenSpec.upto condTellsSpec)

end Rows
end Go.Proofs.Ytcongaiganloaaa
