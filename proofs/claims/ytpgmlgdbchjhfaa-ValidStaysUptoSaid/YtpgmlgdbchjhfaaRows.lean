/-
  No cell of these rows narrows 'for every input' (looked for: loops, veiled, ifaces, maps, wideKeys, modest, calm, conditions, laid).
  DERIVED. THE GIVEN ROWS OF THIS SEAT. 12 by the template 'for every input the law returns true; each argument reads behind the call as it read before'; 0 by the template 'total and deterministic' (their statements: YtpgmlgdbchjhfaaTotals.lean).
  GIVEN WITH THE SEED: the statements are not yours to turn. If you find one false, say at which input.
  Laid BY PROGRAM, IN A SANDBOX (cutbox-rows.mjs): the forced cells as the released guide's own fill.sh prints them over the translation e297dac907acaac5… (all of the seat's roots in one cut). By AI agents, Wed Nov 11 2026. No macro, syntax, notation, axiom, sorry.
-/
import Derived.Test.YtpgmlgdbchjhfaaChecked
import GoSem.Claim
import GoSem.ClaimJoined
import GoSem.ClaimMapViews
import Derived.JoinedTies
import Derived.KernelRfl
namespace Go.Proofs.Ytpgmlgdbchjhfaa
/- THE CELL 'sum', in the pinned program and in every row, IS THE sha256 OF THE DUMP (.gsa) THAT YtpgmlgdbchjhfaaProg.lean LOADS. Nothing in Lean hashes anything: it is a label: what it is worth is what the hold of that sum in a sandbox is worth. -/
noncomputable def Try.pinned : Pinned := { name := "ytpgmlgdbchjhfaa", sum := "e297dac907acaac59e5bddcf67737b8d613c5dcc113c4051b6953ad4dd85aeaa", checked := Try.checked }
namespace Rows
def none {H : Type} : Left H := { results := [], args := [] }

/-- 'easementlaw08.TableGroups': WHATEVER THE INPUT: true; the input reads as it did. -/
def tableGroupsSpec : ChangeSpec := { name := "tableGroups", fn := fun _ => fun
  | [d1, d2] => { results := [.lit (.bool true)], args := [d1, d2] }
  | _ => none }
def tableGroupsRow : OpenClaim := { program := "ytpgmlgdbchjhfaa", sum := "e297dac907acaac59e5bddcf67737b8d613c5dcc113c4051b6953ad4dd85aeaa", func := "easement/easementlaw08.TableGroups", spec := "tableGroups", unfollowed := true, recurses := true, plainKeys := false, apart := false }
def TableGroupsSaid : Prop := tableGroupsRow.holds Try.pinned (OpenSpec.ofChange tableGroupsSpec)

/-- ITS FALSE NEIGHBOUR: 'it returns false'. Refute it at one input. -/
def tableGroupsWrong : ChangeSpec := { name := "tableGroups", fn := fun _ => fun
  | [d1, d2] => { results := [.lit (.bool false)], args := [d1, d2] }
  | _ => none }
def TableGroupsWrongFalsely : Prop := tableGroupsRow.holds Try.pinned (OpenSpec.ofChange tableGroupsWrong)

/-- 'easementlaw15.RowTurns': WHATEVER THE INPUT: true; the input reads as it did. -/
def rowTurnsSpec : ChangeSpec := { name := "rowTurns", fn := fun _ => fun
  | [d1, d2, d3, d4] => { results := [.lit (.bool true)], args := [d1, d2, d3, d4] }
  | _ => none }
def rowTurnsRow : OpenClaim := { program := "ytpgmlgdbchjhfaa", sum := "e297dac907acaac59e5bddcf67737b8d613c5dcc113c4051b6953ad4dd85aeaa", func := "easement/easementlaw15.RowTurns", spec := "rowTurns", unfollowed := true, recurses := true, plainKeys := false, apart := false }
def RowTurnsSaid : Prop := rowTurnsRow.holds Try.pinned (OpenSpec.ofChange rowTurnsSpec)

/-- ITS FALSE NEIGHBOUR: 'it returns false'. Refute it at one input. -/
def rowTurnsWrong : ChangeSpec := { name := "rowTurns", fn := fun _ => fun
  | [d1, d2, d3, d4] => { results := [.lit (.bool false)], args := [d1, d2, d3, d4] }
  | _ => none }
def RowTurnsWrongFalsely : Prop := rowTurnsRow.holds Try.pinned (OpenSpec.ofChange rowTurnsWrong)

/-- 'easementlaw08.TableNone': WHATEVER THE INPUT: true; the input reads as it did. -/
def tableNoneSpec : ChangeSpec := { name := "tableNone", fn := fun _ => fun
  | [d1, d2] => { results := [.lit (.bool true)], args := [d1, d2] }
  | _ => none }
def tableNoneRow : OpenClaim := { program := "ytpgmlgdbchjhfaa", sum := "e297dac907acaac59e5bddcf67737b8d613c5dcc113c4051b6953ad4dd85aeaa", func := "easement/easementlaw08.TableNone", spec := "tableNone", unfollowed := true, recurses := true, plainKeys := false, apart := false }
def TableNoneSaid : Prop := tableNoneRow.holds Try.pinned (OpenSpec.ofChange tableNoneSpec)

/-- ITS FALSE NEIGHBOUR: 'it returns false'. Refute it at one input. -/
def tableNoneWrong : ChangeSpec := { name := "tableNone", fn := fun _ => fun
  | [d1, d2] => { results := [.lit (.bool false)], args := [d1, d2] }
  | _ => none }
def TableNoneWrongFalsely : Prop := tableNoneRow.holds Try.pinned (OpenSpec.ofChange tableNoneWrong)

/-- 'easementlaw08.TablePlays': WHATEVER THE INPUT: true; the input reads as it did. -/
def tablePlaysSpec : ChangeSpec := { name := "tablePlays", fn := fun _ => fun
  | [d1, d2, d3] => { results := [.lit (.bool true)], args := [d1, d2, d3] }
  | _ => none }
def tablePlaysRow : OpenClaim := { program := "ytpgmlgdbchjhfaa", sum := "e297dac907acaac59e5bddcf67737b8d613c5dcc113c4051b6953ad4dd85aeaa", func := "easement/easementlaw08.TablePlays", spec := "tablePlays", unfollowed := true, recurses := true, plainKeys := false, apart := false }
def TablePlaysSaid : Prop := tablePlaysRow.holds Try.pinned (OpenSpec.ofChange tablePlaysSpec)

/-- ITS FALSE NEIGHBOUR: 'it returns false'. Refute it at one input. -/
def tablePlaysWrong : ChangeSpec := { name := "tablePlays", fn := fun _ => fun
  | [d1, d2, d3] => { results := [.lit (.bool false)], args := [d1, d2, d3] }
  | _ => none }
def TablePlaysWrongFalsely : Prop := tablePlaysRow.holds Try.pinned (OpenSpec.ofChange tablePlaysWrong)

/-- 'easementlaw15.RowBack': WHATEVER THE INPUT: true; the input reads as it did. -/
def rowBackSpec : ChangeSpec := { name := "rowBack", fn := fun _ => fun
  | [d1, d2, d3] => { results := [.lit (.bool true)], args := [d1, d2, d3] }
  | _ => none }
def rowBackRow : OpenClaim := { program := "ytpgmlgdbchjhfaa", sum := "e297dac907acaac59e5bddcf67737b8d613c5dcc113c4051b6953ad4dd85aeaa", func := "easement/easementlaw15.RowBack", spec := "rowBack", unfollowed := true, recurses := true, plainKeys := false, apart := false }
def RowBackSaid : Prop := rowBackRow.holds Try.pinned (OpenSpec.ofChange rowBackSpec)

/-- ITS FALSE NEIGHBOUR: 'it returns false'. Refute it at one input. -/
def rowBackWrong : ChangeSpec := { name := "rowBack", fn := fun _ => fun
  | [d1, d2, d3] => { results := [.lit (.bool false)], args := [d1, d2, d3] }
  | _ => none }
def RowBackWrongFalsely : Prop := rowBackRow.holds Try.pinned (OpenSpec.ofChange rowBackWrong)

/-- 'easementlaw30.ModelOutlives': WHATEVER THE INPUT: true; the input reads as it did. -/
def modelOutlivesSpec : ChangeSpec := { name := "modelOutlives", fn := fun _ => fun
  | [d1, d2, d3] => { results := [.lit (.bool true)], args := [d1, d2, d3] }
  | _ => none }
def modelOutlivesRow : OpenClaim := { program := "ytpgmlgdbchjhfaa", sum := "e297dac907acaac59e5bddcf67737b8d613c5dcc113c4051b6953ad4dd85aeaa", func := "easement/easementlaw30.ModelOutlives", spec := "modelOutlives", unfollowed := true, recurses := true, plainKeys := false, apart := false }
def ModelOutlivesSaid : Prop := modelOutlivesRow.holds Try.pinned (OpenSpec.ofChange modelOutlivesSpec)

/-- ITS FALSE NEIGHBOUR: 'it returns false'. Refute it at one input. -/
def modelOutlivesWrong : ChangeSpec := { name := "modelOutlives", fn := fun _ => fun
  | [d1, d2, d3] => { results := [.lit (.bool false)], args := [d1, d2, d3] }
  | _ => none }
def ModelOutlivesWrongFalsely : Prop := modelOutlivesRow.holds Try.pinned (OpenSpec.ofChange modelOutlivesWrong)

/-- 'easementlaw21.ValidStays': WHATEVER THE INPUT: true; the input reads as it did. -/
def validStaysSpec : ChangeSpec := { name := "validStays", fn := fun _ => fun
  | [d1, d2, d3, d4] => { results := [.lit (.bool true)], args := [d1, d2, d3, d4] }
  | _ => none }
def validStaysRow : OpenClaim := { program := "ytpgmlgdbchjhfaa", sum := "e297dac907acaac59e5bddcf67737b8d613c5dcc113c4051b6953ad4dd85aeaa", func := "easement/easementlaw21.ValidStays", spec := "validStays", unfollowed := true, recurses := true, plainKeys := false, apart := false }
def ValidStaysSaid : Prop := validStaysRow.holds Try.pinned (OpenSpec.ofChange validStaysSpec)

/-- ITS FALSE NEIGHBOUR: 'it returns false'. Refute it at one input. -/
def validStaysWrong : ChangeSpec := { name := "validStays", fn := fun _ => fun
  | [d1, d2, d3, d4] => { results := [.lit (.bool false)], args := [d1, d2, d3, d4] }
  | _ => none }
def ValidStaysWrongFalsely : Prop := validStaysRow.holds Try.pinned (OpenSpec.ofChange validStaysWrong)

/-- 'easementlaw21.ValidMany': WHATEVER THE INPUT: true; the input reads as it did. -/
def validManySpec : ChangeSpec := { name := "validMany", fn := fun _ => fun
  | [d1, d2] => { results := [.lit (.bool true)], args := [d1, d2] }
  | _ => none }
def validManyRow : OpenClaim := { program := "ytpgmlgdbchjhfaa", sum := "e297dac907acaac59e5bddcf67737b8d613c5dcc113c4051b6953ad4dd85aeaa", func := "easement/easementlaw21.ValidMany", spec := "validMany", unfollowed := true, recurses := true, plainKeys := false, apart := false }
def ValidManySaid : Prop := validManyRow.holds Try.pinned (OpenSpec.ofChange validManySpec)

/-- ITS FALSE NEIGHBOUR: 'it returns false'. Refute it at one input. -/
def validManyWrong : ChangeSpec := { name := "validMany", fn := fun _ => fun
  | [d1, d2] => { results := [.lit (.bool false)], args := [d1, d2] }
  | _ => none }
def ValidManyWrongFalsely : Prop := validManyRow.holds Try.pinned (OpenSpec.ofChange validManyWrong)

/-- 'easementlaw21.ValidTells': WHATEVER THE INPUT: true; the input reads as it did. -/
def validTellsSpec : ChangeSpec := { name := "validTells", fn := fun _ => fun
  | [d1, d2] => { results := [.lit (.bool true)], args := [d1, d2] }
  | _ => none }
def validTellsRow : OpenClaim := { program := "ytpgmlgdbchjhfaa", sum := "e297dac907acaac59e5bddcf67737b8d613c5dcc113c4051b6953ad4dd85aeaa", func := "easement/easementlaw21.ValidTells", spec := "validTells", unfollowed := true, recurses := true, plainKeys := false, apart := false }
def ValidTellsSaid : Prop := validTellsRow.holds Try.pinned (OpenSpec.ofChange validTellsSpec)

/-- ITS FALSE NEIGHBOUR: 'it returns false'. Refute it at one input. -/
def validTellsWrong : ChangeSpec := { name := "validTells", fn := fun _ => fun
  | [d1, d2] => { results := [.lit (.bool false)], args := [d1, d2] }
  | _ => none }
def ValidTellsWrongFalsely : Prop := validTellsRow.holds Try.pinned (OpenSpec.ofChange validTellsWrong)

/-- 'easementlaw22.PointTells': WHATEVER THE INPUT: true; the input reads as it did. -/
def pointTellsSpec : ChangeSpec := { name := "pointTells", fn := fun _ => fun
  | [d1, d2, d3, d4] => { results := [.lit (.bool true)], args := [d1, d2, d3, d4] }
  | _ => none }
def pointTellsRow : OpenClaim := { program := "ytpgmlgdbchjhfaa", sum := "e297dac907acaac59e5bddcf67737b8d613c5dcc113c4051b6953ad4dd85aeaa", func := "easement/easementlaw22.PointTells", spec := "pointTells", unfollowed := true, recurses := true, plainKeys := false, apart := false }
def PointTellsSaid : Prop := pointTellsRow.holds Try.pinned (OpenSpec.ofChange pointTellsSpec)

/-- ITS FALSE NEIGHBOUR: 'it returns false'. Refute it at one input. -/
def pointTellsWrong : ChangeSpec := { name := "pointTells", fn := fun _ => fun
  | [d1, d2, d3, d4] => { results := [.lit (.bool false)], args := [d1, d2, d3, d4] }
  | _ => none }
def PointTellsWrongFalsely : Prop := pointTellsRow.holds Try.pinned (OpenSpec.ofChange pointTellsWrong)

/-- 'easementlaw22.PointBack': WHATEVER THE INPUT: true; the input reads as it did. -/
def pointBackSpec : ChangeSpec := { name := "pointBack", fn := fun _ => fun
  | [d] => { results := [.lit (.bool true)], args := [d] }
  | _ => none }
def pointBackRow : OpenClaim := { program := "ytpgmlgdbchjhfaa", sum := "e297dac907acaac59e5bddcf67737b8d613c5dcc113c4051b6953ad4dd85aeaa", func := "easement/easementlaw22.PointBack", spec := "pointBack", unfollowed := true, recurses := true, plainKeys := false, apart := false }
def PointBackSaid : Prop := pointBackRow.holds Try.pinned (OpenSpec.ofChange pointBackSpec)

/-- ITS FALSE NEIGHBOUR: 'it returns false'. Refute it at one input. -/
def pointBackWrong : ChangeSpec := { name := "pointBack", fn := fun _ => fun
  | [d] => { results := [.lit (.bool false)], args := [d] }
  | _ => none }
def PointBackWrongFalsely : Prop := pointBackRow.holds Try.pinned (OpenSpec.ofChange pointBackWrong)

/-- 'easementlaw15.RowTells': WHATEVER THE INPUT: true; the input reads as it did. -/
def rowTellsSpec : ChangeSpec := { name := "rowTells", fn := fun _ => fun
  | [d1, d2, d3, d4] => { results := [.lit (.bool true)], args := [d1, d2, d3, d4] }
  | _ => none }
def rowTellsRow : OpenClaim := { program := "ytpgmlgdbchjhfaa", sum := "e297dac907acaac59e5bddcf67737b8d613c5dcc113c4051b6953ad4dd85aeaa", func := "easement/easementlaw15.RowTells", spec := "rowTells", unfollowed := true, recurses := true, plainKeys := false, apart := false }
def RowTellsSaid : Prop := rowTellsRow.holds Try.pinned (OpenSpec.ofChange rowTellsSpec)

/-- ITS FALSE NEIGHBOUR: 'it returns false'. Refute it at one input. -/
def rowTellsWrong : ChangeSpec := { name := "rowTells", fn := fun _ => fun
  | [d1, d2, d3, d4] => { results := [.lit (.bool false)], args := [d1, d2, d3, d4] }
  | _ => none }
def RowTellsWrongFalsely : Prop := rowTellsRow.holds Try.pinned (OpenSpec.ofChange rowTellsWrong)

/- THE SECOND FORM. 'bulk': how many values and letters a reading holds, each counted each time it is reached (what is shared counts as often as it is met; a slice's spare places count too). A statement '..UptoSaid' is the law's where the arguments, and the package variables that the reading takes, are together of bulk at most 1048576: NARROWER than '..Said'. Prove '..Said' where nothing that the law and all that it calls make is longer than what came in: it says more and counts as full. Else prove '..UptoSaid'. A law counts once. -/
mutual
def uptoBulk {H : Type} : DataW H → Nat
  | .lit (.string bytes) => bytes.length + 1
  | .lit _ => 1
  | .nil => 1
  | .ptr d => uptoBulk d + 1
  | .slice elems spare => uptoBulkAll elems + uptoBulkAll spare + 1
  | .agg parts => uptoBulkAll parts + 1
  | .iface _ d => uptoBulk d + 1
  | .map entries => uptoBulkEntries entries + 1
  | .held _ => 1
def uptoBulkAll {H : Type} : List (DataW H) → Nat
  | [] => 0
  | d :: r => uptoBulk d + uptoBulkAll r
def uptoBulkEntries {H : Type} : List (Lit × DataW H) → Nat
  | [] => 0
  | x :: r => uptoBulkEntry x + uptoBulkEntries r
def uptoBulkEntry {H : Type} : Lit × DataW H → Nat
  | (.string bytes, d) => bytes.length + uptoBulk d + 1
  | (_, d) => uptoBulk d + 1
 end
def uptoSmall : (H : Type) → List (DataW H) → Bool := fun _ ds => decide (uptoBulkAll ds ≤ 1048576)
def OpenSpec.upto (s : _root_.Go.ChangeSpec) : _root_.Go.OpenSpec := { _root_.Go.OpenSpec.ofChange s with cond := some uptoSmall }

/-- 'easementlaw08.TableGroups', WHERE WHAT IT READS IS OF BULK AT MOST 1048576: true; the input reads as it did. -/
def tableGroupsUptoRow : OpenClaim := { program := "ytpgmlgdbchjhfaa", sum := "e297dac907acaac59e5bddcf67737b8d613c5dcc113c4051b6953ad4dd85aeaa", func := "easement/easementlaw08.TableGroups", spec := "tableGroups", unfollowed := true, recurses := true, plainKeys := false, apart := false, narrowed := true }
def TableGroupsUptoSaid : Prop := tableGroupsUptoRow.holds Try.pinned (OpenSpec.upto tableGroupsSpec)

/-- 'easementlaw15.RowTurns', WHERE WHAT IT READS IS OF BULK AT MOST 1048576: true; the input reads as it did. -/
def rowTurnsUptoRow : OpenClaim := { program := "ytpgmlgdbchjhfaa", sum := "e297dac907acaac59e5bddcf67737b8d613c5dcc113c4051b6953ad4dd85aeaa", func := "easement/easementlaw15.RowTurns", spec := "rowTurns", unfollowed := true, recurses := true, plainKeys := false, apart := false, narrowed := true }
def RowTurnsUptoSaid : Prop := rowTurnsUptoRow.holds Try.pinned (OpenSpec.upto rowTurnsSpec)

/-- 'easementlaw08.TableNone', WHERE WHAT IT READS IS OF BULK AT MOST 1048576: true; the input reads as it did. -/
def tableNoneUptoRow : OpenClaim := { program := "ytpgmlgdbchjhfaa", sum := "e297dac907acaac59e5bddcf67737b8d613c5dcc113c4051b6953ad4dd85aeaa", func := "easement/easementlaw08.TableNone", spec := "tableNone", unfollowed := true, recurses := true, plainKeys := false, apart := false, narrowed := true }
def TableNoneUptoSaid : Prop := tableNoneUptoRow.holds Try.pinned (OpenSpec.upto tableNoneSpec)

/-- 'easementlaw08.TablePlays', WHERE WHAT IT READS IS OF BULK AT MOST 1048576: true; the input reads as it did. -/
def tablePlaysUptoRow : OpenClaim := { program := "ytpgmlgdbchjhfaa", sum := "e297dac907acaac59e5bddcf67737b8d613c5dcc113c4051b6953ad4dd85aeaa", func := "easement/easementlaw08.TablePlays", spec := "tablePlays", unfollowed := true, recurses := true, plainKeys := false, apart := false, narrowed := true }
def TablePlaysUptoSaid : Prop := tablePlaysUptoRow.holds Try.pinned (OpenSpec.upto tablePlaysSpec)

/-- 'easementlaw15.RowBack', WHERE WHAT IT READS IS OF BULK AT MOST 1048576: true; the input reads as it did. -/
def rowBackUptoRow : OpenClaim := { program := "ytpgmlgdbchjhfaa", sum := "e297dac907acaac59e5bddcf67737b8d613c5dcc113c4051b6953ad4dd85aeaa", func := "easement/easementlaw15.RowBack", spec := "rowBack", unfollowed := true, recurses := true, plainKeys := false, apart := false, narrowed := true }
def RowBackUptoSaid : Prop := rowBackUptoRow.holds Try.pinned (OpenSpec.upto rowBackSpec)

/-- 'easementlaw30.ModelOutlives', WHERE WHAT IT READS IS OF BULK AT MOST 1048576: true; the input reads as it did. -/
def modelOutlivesUptoRow : OpenClaim := { program := "ytpgmlgdbchjhfaa", sum := "e297dac907acaac59e5bddcf67737b8d613c5dcc113c4051b6953ad4dd85aeaa", func := "easement/easementlaw30.ModelOutlives", spec := "modelOutlives", unfollowed := true, recurses := true, plainKeys := false, apart := false, narrowed := true }
def ModelOutlivesUptoSaid : Prop := modelOutlivesUptoRow.holds Try.pinned (OpenSpec.upto modelOutlivesSpec)

/-- 'easementlaw21.ValidStays', WHERE WHAT IT READS IS OF BULK AT MOST 1048576: true; the input reads as it did. -/
def validStaysUptoRow : OpenClaim := { program := "ytpgmlgdbchjhfaa", sum := "e297dac907acaac59e5bddcf67737b8d613c5dcc113c4051b6953ad4dd85aeaa", func := "easement/easementlaw21.ValidStays", spec := "validStays", unfollowed := true, recurses := true, plainKeys := false, apart := false, narrowed := true }
def ValidStaysUptoSaid : Prop := validStaysUptoRow.holds Try.pinned (OpenSpec.upto validStaysSpec)

/-- 'easementlaw21.ValidMany', WHERE WHAT IT READS IS OF BULK AT MOST 1048576: true; the input reads as it did. -/
def validManyUptoRow : OpenClaim := { program := "ytpgmlgdbchjhfaa", sum := "e297dac907acaac59e5bddcf67737b8d613c5dcc113c4051b6953ad4dd85aeaa", func := "easement/easementlaw21.ValidMany", spec := "validMany", unfollowed := true, recurses := true, plainKeys := false, apart := false, narrowed := true }
def ValidManyUptoSaid : Prop := validManyUptoRow.holds Try.pinned (OpenSpec.upto validManySpec)

/-- 'easementlaw21.ValidTells', WHERE WHAT IT READS IS OF BULK AT MOST 1048576: true; the input reads as it did. -/
def validTellsUptoRow : OpenClaim := { program := "ytpgmlgdbchjhfaa", sum := "e297dac907acaac59e5bddcf67737b8d613c5dcc113c4051b6953ad4dd85aeaa", func := "easement/easementlaw21.ValidTells", spec := "validTells", unfollowed := true, recurses := true, plainKeys := false, apart := false, narrowed := true }
def ValidTellsUptoSaid : Prop := validTellsUptoRow.holds Try.pinned (OpenSpec.upto validTellsSpec)

/-- 'easementlaw22.PointTells', WHERE WHAT IT READS IS OF BULK AT MOST 1048576: true; the input reads as it did. -/
def pointTellsUptoRow : OpenClaim := { program := "ytpgmlgdbchjhfaa", sum := "e297dac907acaac59e5bddcf67737b8d613c5dcc113c4051b6953ad4dd85aeaa", func := "easement/easementlaw22.PointTells", spec := "pointTells", unfollowed := true, recurses := true, plainKeys := false, apart := false, narrowed := true }
def PointTellsUptoSaid : Prop := pointTellsUptoRow.holds Try.pinned (OpenSpec.upto pointTellsSpec)

/-- 'easementlaw22.PointBack', WHERE WHAT IT READS IS OF BULK AT MOST 1048576: true; the input reads as it did. -/
def pointBackUptoRow : OpenClaim := { program := "ytpgmlgdbchjhfaa", sum := "e297dac907acaac59e5bddcf67737b8d613c5dcc113c4051b6953ad4dd85aeaa", func := "easement/easementlaw22.PointBack", spec := "pointBack", unfollowed := true, recurses := true, plainKeys := false, apart := false, narrowed := true }
def PointBackUptoSaid : Prop := pointBackUptoRow.holds Try.pinned (OpenSpec.upto pointBackSpec)

/-- 'easementlaw15.RowTells', WHERE WHAT IT READS IS OF BULK AT MOST 1048576: true; the input reads as it did. -/
def rowTellsUptoRow : OpenClaim := { program := "ytpgmlgdbchjhfaa", sum := "e297dac907acaac59e5bddcf67737b8d613c5dcc113c4051b6953ad4dd85aeaa", func := "easement/easementlaw15.RowTells", spec := "rowTells", unfollowed := true, recurses := true, plainKeys := false, apart := false, narrowed := true }
def RowTellsUptoSaid : Prop := rowTellsUptoRow.holds Try.pinned (OpenSpec.upto rowTellsSpec)

end Rows
end Go.Proofs.Ytpgmlgdbchjhfaa
