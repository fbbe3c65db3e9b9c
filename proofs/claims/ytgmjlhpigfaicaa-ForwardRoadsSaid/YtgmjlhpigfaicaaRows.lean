/-
  No cell of these rows narrows 'for every input' (looked for: loops, veiled, ifaces, maps, wideKeys, modest, calm, conditions, laid).
  DERIVED. THE GIVEN ROWS OF THIS SEAT. 9 by the template 'for every input the law returns true; each argument reads behind the call as it read before'; 0 by the template 'total and deterministic' (their statements: YtgmjlhpigfaicaaTotals.lean).
  GIVEN WITH THE SEED: the statements are not yours to turn. If you find one false, say at which input.
  Laid BY PROGRAM, IN A SANDBOX (cutbox-rows.mjs): the forced cells as the released guide's own fill.sh prints them over the translation 2587a29244dcdc3e… (all of the seat's roots in one cut). By AI agents, Wed Nov 11 2026. No macro, syntax, notation, axiom, sorry.
-/
import Derived.Test.YtgmjlhpigfaicaaChecked
import GoSem.Claim
import GoSem.ClaimJoined
import GoSem.ClaimMapViews
import Derived.JoinedTies
import Derived.KernelRfl
namespace Go.Proofs.Ytgmjlhpigfaicaa
/- THE CELL 'sum', in the pinned program and in every row, IS THE sha256 OF THE DUMP (.gsa) THAT YtgmjlhpigfaicaaProg.lean LOADS. Nothing in Lean hashes anything: it is a label: what it is worth is what the hold of that sum in a sandbox is worth. -/
noncomputable def Try.pinned : Pinned := { name := "ytgmjlhpigfaicaa", sum := "2587a29244dcdc3e5ae52bfac5a881e2f0ddcadd747d75f9982702670d0a0b49", checked := Try.checked }
namespace Rows
def none {H : Type} : Left H := { results := [], args := [] }

/-- 'beaconlaw17.TableRoom': WHATEVER THE INPUT: true; the input reads as it did. -/
def tableRoomSpec : ChangeSpec := { name := "tableRoom", fn := fun _ => fun
  | [d1, d2, d3] => { results := [.lit (.bool true)], args := [d1, d2, d3] }
  | _ => none }
def tableRoomRow : OpenClaim := { program := "ytgmjlhpigfaicaa", sum := "2587a29244dcdc3e5ae52bfac5a881e2f0ddcadd747d75f9982702670d0a0b49", func := "beacon/beaconlaw17.TableRoom", spec := "tableRoom", inPlace := ["math.Float64bits"], unfollowed := true, recurses := true, apart := false }
def TableRoomSaid : Prop := tableRoomRow.holds Try.pinned (OpenSpec.ofChange tableRoomSpec)

/-- ITS FALSE NEIGHBOUR: 'it returns false'. Refute it at one input. -/
def tableRoomWrong : ChangeSpec := { name := "tableRoom", fn := fun _ => fun
  | [d1, d2, d3] => { results := [.lit (.bool false)], args := [d1, d2, d3] }
  | _ => none }
def TableRoomWrongFalsely : Prop := tableRoomRow.holds Try.pinned (OpenSpec.ofChange tableRoomWrong)

/-- 'beaconlaw17.TableKeeps': WHATEVER THE INPUT: true; the input reads as it did. -/
def tableKeepsSpec : ChangeSpec := { name := "tableKeeps", fn := fun _ => fun
  | [d1, d2, d3] => { results := [.lit (.bool true)], args := [d1, d2, d3] }
  | _ => none }
def tableKeepsRow : OpenClaim := { program := "ytgmjlhpigfaicaa", sum := "2587a29244dcdc3e5ae52bfac5a881e2f0ddcadd747d75f9982702670d0a0b49", func := "beacon/beaconlaw17.TableKeeps", spec := "tableKeeps", inPlace := ["math.Float64bits"], unfollowed := true, recurses := true, apart := false }
def TableKeepsSaid : Prop := tableKeepsRow.holds Try.pinned (OpenSpec.ofChange tableKeepsSpec)

/-- ITS FALSE NEIGHBOUR: 'it returns false'. Refute it at one input. -/
def tableKeepsWrong : ChangeSpec := { name := "tableKeeps", fn := fun _ => fun
  | [d1, d2, d3] => { results := [.lit (.bool false)], args := [d1, d2, d3] }
  | _ => none }
def TableKeepsWrongFalsely : Prop := tableKeepsRow.holds Try.pinned (OpenSpec.ofChange tableKeepsWrong)

/-- 'beaconlaw17.TableSames': WHATEVER THE INPUT: true; the input reads as it did. -/
def tableSamesSpec : ChangeSpec := { name := "tableSames", fn := fun _ => fun
  | [d1, d2] => { results := [.lit (.bool true)], args := [d1, d2] }
  | _ => none }
def tableSamesRow : OpenClaim := { program := "ytgmjlhpigfaicaa", sum := "2587a29244dcdc3e5ae52bfac5a881e2f0ddcadd747d75f9982702670d0a0b49", func := "beacon/beaconlaw17.TableSames", spec := "tableSames", inPlace := ["math.Float64bits"], unfollowed := true, recurses := true, apart := false }
def TableSamesSaid : Prop := tableSamesRow.holds Try.pinned (OpenSpec.ofChange tableSamesSpec)

/-- ITS FALSE NEIGHBOUR: 'it returns false'. Refute it at one input. -/
def tableSamesWrong : ChangeSpec := { name := "tableSames", fn := fun _ => fun
  | [d1, d2] => { results := [.lit (.bool false)], args := [d1, d2] }
  | _ => none }
def TableSamesWrongFalsely : Prop := tableSamesRow.holds Try.pinned (OpenSpec.ofChange tableSamesWrong)

/-- 'beaconlaw17.TableOwn': WHATEVER THE INPUT: true; the input reads as it did. -/
def tableOwnSpec : ChangeSpec := { name := "tableOwn", fn := fun _ => fun
  | [d1, d2, d3] => { results := [.lit (.bool true)], args := [d1, d2, d3] }
  | _ => none }
def tableOwnRow : OpenClaim := { program := "ytgmjlhpigfaicaa", sum := "2587a29244dcdc3e5ae52bfac5a881e2f0ddcadd747d75f9982702670d0a0b49", func := "beacon/beaconlaw17.TableOwn", spec := "tableOwn", inPlace := ["math.Float64bits", "math.Float64frombits"], unfollowed := true, recurses := true, apart := false }
def TableOwnSaid : Prop := tableOwnRow.holds Try.pinned (OpenSpec.ofChange tableOwnSpec)

/-- ITS FALSE NEIGHBOUR: 'it returns false'. Refute it at one input. -/
def tableOwnWrong : ChangeSpec := { name := "tableOwn", fn := fun _ => fun
  | [d1, d2, d3] => { results := [.lit (.bool false)], args := [d1, d2, d3] }
  | _ => none }
def TableOwnWrongFalsely : Prop := tableOwnRow.holds Try.pinned (OpenSpec.ofChange tableOwnWrong)

/-- 'beaconlaw17.TableFinds': WHATEVER THE INPUT: true; the input reads as it did. -/
def tableFindsSpec : ChangeSpec := { name := "tableFinds", fn := fun _ => fun
  | [d1, d2, d3] => { results := [.lit (.bool true)], args := [d1, d2, d3] }
  | _ => none }
def tableFindsRow : OpenClaim := { program := "ytgmjlhpigfaicaa", sum := "2587a29244dcdc3e5ae52bfac5a881e2f0ddcadd747d75f9982702670d0a0b49", func := "beacon/beaconlaw17.TableFinds", spec := "tableFinds", inPlace := ["math.Float64bits", "math.Float64frombits"], unfollowed := true, recurses := true, apart := false }
def TableFindsSaid : Prop := tableFindsRow.holds Try.pinned (OpenSpec.ofChange tableFindsSpec)

/-- ITS FALSE NEIGHBOUR: 'it returns false'. Refute it at one input. -/
def tableFindsWrong : ChangeSpec := { name := "tableFinds", fn := fun _ => fun
  | [d1, d2, d3] => { results := [.lit (.bool false)], args := [d1, d2, d3] }
  | _ => none }
def TableFindsWrongFalsely : Prop := tableFindsRow.holds Try.pinned (OpenSpec.ofChange tableFindsWrong)

/-- 'beaconlaw19.ForwardDecides': WHATEVER THE INPUT: true; the input reads as it did. -/
def forwardDecidesSpec : ChangeSpec := { name := "forwardDecides", fn := fun _ => fun
  | [d1, d2, d3] => { results := [.lit (.bool true)], args := [d1, d2, d3] }
  | _ => none }
def forwardDecidesRow : OpenClaim := { program := "ytgmjlhpigfaicaa", sum := "2587a29244dcdc3e5ae52bfac5a881e2f0ddcadd747d75f9982702670d0a0b49", func := "beacon/beaconlaw19.ForwardDecides", spec := "forwardDecides", inPlace := ["math.Float64bits", "math.Float64frombits", "math.archTrunc"], unfollowed := true, recurses := true, apart := false }
def ForwardDecidesSaid : Prop := forwardDecidesRow.holds Try.pinned (OpenSpec.ofChange forwardDecidesSpec)

/-- ITS FALSE NEIGHBOUR: 'it returns false'. Refute it at one input. -/
def forwardDecidesWrong : ChangeSpec := { name := "forwardDecides", fn := fun _ => fun
  | [d1, d2, d3] => { results := [.lit (.bool false)], args := [d1, d2, d3] }
  | _ => none }
def ForwardDecidesWrongFalsely : Prop := forwardDecidesRow.holds Try.pinned (OpenSpec.ofChange forwardDecidesWrong)

/-- 'beaconlaw19.ForwardCodes': WHATEVER THE INPUT: true; the input reads as it did. -/
def forwardCodesSpec : ChangeSpec := { name := "forwardCodes", fn := fun _ => fun
  | [d] => { results := [.lit (.bool true)], args := [d] }
  | _ => none }
def forwardCodesRow : OpenClaim := { program := "ytgmjlhpigfaicaa", sum := "2587a29244dcdc3e5ae52bfac5a881e2f0ddcadd747d75f9982702670d0a0b49", func := "beacon/beaconlaw19.ForwardCodes", spec := "forwardCodes", inPlace := ["math.Float64bits", "math.Float64frombits", "math.archTrunc"], unfollowed := true, recurses := true, apart := false }
def ForwardCodesSaid : Prop := forwardCodesRow.holds Try.pinned (OpenSpec.ofChange forwardCodesSpec)

/-- ITS FALSE NEIGHBOUR: 'it returns false'. Refute it at one input. -/
def forwardCodesWrong : ChangeSpec := { name := "forwardCodes", fn := fun _ => fun
  | [d] => { results := [.lit (.bool false)], args := [d] }
  | _ => none }
def ForwardCodesWrongFalsely : Prop := forwardCodesRow.holds Try.pinned (OpenSpec.ofChange forwardCodesWrong)

/-- 'beaconlaw19.ForwardWalks': WHATEVER THE INPUT: true; the input reads as it did. -/
def forwardWalksSpec : ChangeSpec := { name := "forwardWalks", fn := fun _ => fun
  | [d1, d2] => { results := [.lit (.bool true)], args := [d1, d2] }
  | _ => none }
def forwardWalksRow : OpenClaim := { program := "ytgmjlhpigfaicaa", sum := "2587a29244dcdc3e5ae52bfac5a881e2f0ddcadd747d75f9982702670d0a0b49", func := "beacon/beaconlaw19.ForwardWalks", spec := "forwardWalks", inPlace := ["math.Float64bits", "math.Float64frombits", "math.archTrunc"], unfollowed := true, recurses := true, apart := false }
def ForwardWalksSaid : Prop := forwardWalksRow.holds Try.pinned (OpenSpec.ofChange forwardWalksSpec)

/-- ITS FALSE NEIGHBOUR: 'it returns false'. Refute it at one input. -/
def forwardWalksWrong : ChangeSpec := { name := "forwardWalks", fn := fun _ => fun
  | [d1, d2] => { results := [.lit (.bool false)], args := [d1, d2] }
  | _ => none }
def ForwardWalksWrongFalsely : Prop := forwardWalksRow.holds Try.pinned (OpenSpec.ofChange forwardWalksWrong)

/-- 'beaconlaw19.ForwardRoads': WHATEVER THE INPUT: true; the input reads as it did. -/
def forwardRoadsSpec : ChangeSpec := { name := "forwardRoads", fn := fun _ => fun
  | [d1, d2, d3] => { results := [.lit (.bool true)], args := [d1, d2, d3] }
  | _ => none }
def forwardRoadsRow : OpenClaim := { program := "ytgmjlhpigfaicaa", sum := "2587a29244dcdc3e5ae52bfac5a881e2f0ddcadd747d75f9982702670d0a0b49", func := "beacon/beaconlaw19.ForwardRoads", spec := "forwardRoads", inPlace := ["math.Float64bits", "math.archTrunc", "math.Float64frombits"], unfollowed := true, recurses := true, apart := false }
def ForwardRoadsSaid : Prop := forwardRoadsRow.holds Try.pinned (OpenSpec.ofChange forwardRoadsSpec)

/-- ITS FALSE NEIGHBOUR: 'it returns false'. Refute it at one input. -/
def forwardRoadsWrong : ChangeSpec := { name := "forwardRoads", fn := fun _ => fun
  | [d1, d2, d3] => { results := [.lit (.bool false)], args := [d1, d2, d3] }
  | _ => none }
def ForwardRoadsWrongFalsely : Prop := forwardRoadsRow.holds Try.pinned (OpenSpec.ofChange forwardRoadsWrong)

/- THE SECOND FORM. 'bulk': how many values and letters a reading holds, each counted each time it is reached (what is shared counts as often as it is met; a slice's spare places count too). A statement '..UptoSaid' is the law's where the arguments, and the package variables that the reading takes, are together of bulk at most 1048576: NARROWER than '..Said'. Prove '..Said' where nothing that the law and all that it calls make is longer than what came in: it says more and counts as full. Else prove '..UptoSaid'. A law counts once. -/
mutual
def uptoBulk {H : Type} : DataW H → Nat
  | .lit (.string bytes) => bytes.length + 1
  | .lit _ => 1
  | .nil => 1
  | .ptr d => uptoBulk d + 1
  | .slice elems spare => uptoBulkAll elems + uptoBulkAll spare + 1
  | .agg parts => uptoBulkAll parts + 1
  | .iface _ d => uptoBulk d + 1
  | .map entries => uptoBulkEntries entries + 1
  | .held _ => 1
def uptoBulkAll {H : Type} : List (DataW H) → Nat
  | [] => 0
  | d :: r => uptoBulk d + uptoBulkAll r
def uptoBulkEntries {H : Type} : List (Lit × DataW H) → Nat
  | [] => 0
  | x :: r => uptoBulkEntry x + uptoBulkEntries r
def uptoBulkEntry {H : Type} : Lit × DataW H → Nat
  | (.string bytes, d) => bytes.length + uptoBulk d + 1
  | (_, d) => uptoBulk d + 1
 end
def uptoSmall : (H : Type) → List (DataW H) → Bool := fun _ ds => decide (uptoBulkAll ds ≤ 1048576)
def OpenSpec.upto (s : _root_.Go.ChangeSpec) : _root_.Go.OpenSpec := { _root_.Go.OpenSpec.ofChange s with cond := some uptoSmall }

/-- 'beaconlaw17.TableRoom', WHERE WHAT IT READS IS OF BULK AT MOST 1048576: true; the input reads as it did. -/
def tableRoomUptoRow : OpenClaim := { program := "ytgmjlhpigfaicaa", sum := "2587a29244dcdc3e5ae52bfac5a881e2f0ddcadd747d75f9982702670d0a0b49", func := "beacon/beaconlaw17.TableRoom", spec := "tableRoom", inPlace := ["math.Float64bits"], unfollowed := true, recurses := true, apart := false, narrowed := true }
def TableRoomUptoSaid : Prop := tableRoomUptoRow.holds Try.pinned (OpenSpec.upto tableRoomSpec)

/-- 'beaconlaw17.TableKeeps', WHERE WHAT IT READS IS OF BULK AT MOST 1048576: true; the input reads as it did. -/
def tableKeepsUptoRow : OpenClaim := { program := "ytgmjlhpigfaicaa", sum := "2587a29244dcdc3e5ae52bfac5a881e2f0ddcadd747d75f9982702670d0a0b49", func := "beacon/beaconlaw17.TableKeeps", spec := "tableKeeps", inPlace := ["math.Float64bits"], unfollowed := true, recurses := true, apart := false, narrowed := true }
def TableKeepsUptoSaid : Prop := tableKeepsUptoRow.holds Try.pinned (OpenSpec.upto tableKeepsSpec)

/-- 'beaconlaw17.TableSames', WHERE WHAT IT READS IS OF BULK AT MOST 1048576: true; the input reads as it did. -/
def tableSamesUptoRow : OpenClaim := { program := "ytgmjlhpigfaicaa", sum := "2587a29244dcdc3e5ae52bfac5a881e2f0ddcadd747d75f9982702670d0a0b49", func := "beacon/beaconlaw17.TableSames", spec := "tableSames", inPlace := ["math.Float64bits"], unfollowed := true, recurses := true, apart := false, narrowed := true }
def TableSamesUptoSaid : Prop := tableSamesUptoRow.holds Try.pinned (OpenSpec.upto tableSamesSpec)

/-- 'beaconlaw17.TableOwn', WHERE WHAT IT READS IS OF BULK AT MOST 1048576: true; the input reads as it did. -/
def tableOwnUptoRow : OpenClaim := { program := "ytgmjlhpigfaicaa", sum := "2587a29244dcdc3e5ae52bfac5a881e2f0ddcadd747d75f9982702670d0a0b49", func := "beacon/beaconlaw17.TableOwn", spec := "tableOwn", inPlace := ["math.Float64bits", "math.Float64frombits"], unfollowed := true, recurses := true, apart := false, narrowed := true }
def TableOwnUptoSaid : Prop := tableOwnUptoRow.holds Try.pinned (OpenSpec.upto tableOwnSpec)

/-- 'beaconlaw17.TableFinds', WHERE WHAT IT READS IS OF BULK AT MOST 1048576: true; the input reads as it did. -/
def tableFindsUptoRow : OpenClaim := { program := "ytgmjlhpigfaicaa", sum := "2587a29244dcdc3e5ae52bfac5a881e2f0ddcadd747d75f9982702670d0a0b49", func := "beacon/beaconlaw17.TableFinds", spec := "tableFinds", inPlace := ["math.Float64bits", "math.Float64frombits"], unfollowed := true, recurses := true, apart := false, narrowed := true }
def TableFindsUptoSaid : Prop := tableFindsUptoRow.holds Try.pinned (OpenSpec.upto tableFindsSpec)

/-- 'beaconlaw19.ForwardDecides', WHERE WHAT IT READS IS OF BULK AT MOST 1048576: true; the input reads as it did. -/
def forwardDecidesUptoRow : OpenClaim := { program := "ytgmjlhpigfaicaa", sum := "2587a29244dcdc3e5ae52bfac5a881e2f0ddcadd747d75f9982702670d0a0b49", func := "beacon/beaconlaw19.ForwardDecides", spec := "forwardDecides", inPlace := ["math.Float64bits", "math.Float64frombits", "math.archTrunc"], unfollowed := true, recurses := true, apart := false, narrowed := true }
def ForwardDecidesUptoSaid : Prop := forwardDecidesUptoRow.holds Try.pinned (OpenSpec.upto forwardDecidesSpec)

/-- 'beaconlaw19.ForwardCodes', WHERE WHAT IT READS IS OF BULK AT MOST 1048576: true; the input reads as it did. -/
def forwardCodesUptoRow : OpenClaim := { program := "ytgmjlhpigfaicaa", sum := "2587a29244dcdc3e5ae52bfac5a881e2f0ddcadd747d75f9982702670d0a0b49", func := "beacon/beaconlaw19.ForwardCodes", spec := "forwardCodes", inPlace := ["math.Float64bits", "math.Float64frombits", "math.archTrunc"], unfollowed := true, recurses := true, apart := false, narrowed := true }
def ForwardCodesUptoSaid : Prop := forwardCodesUptoRow.holds Try.pinned (OpenSpec.upto forwardCodesSpec)

/-- 'beaconlaw19.ForwardWalks', WHERE WHAT IT READS IS OF BULK AT MOST 1048576: true; the input reads as it did. -/
def forwardWalksUptoRow : OpenClaim := { program := "ytgmjlhpigfaicaa", sum := "2587a29244dcdc3e5ae52bfac5a881e2f0ddcadd747d75f9982702670d0a0b49", func := "beacon/beaconlaw19.ForwardWalks", spec := "forwardWalks", inPlace := ["math.Float64bits", "math.Float64frombits", "math.archTrunc"], unfollowed := true, recurses := true, apart := false, narrowed := true }
def ForwardWalksUptoSaid : Prop := forwardWalksUptoRow.holds Try.pinned (OpenSpec.upto forwardWalksSpec)

/-- 'beaconlaw19.ForwardRoads', WHERE WHAT IT READS IS OF BULK AT MOST 1048576: true; the input reads as it did. -/
def forwardRoadsUptoRow : OpenClaim := { program := "ytgmjlhpigfaicaa", sum := "2587a29244dcdc3e5ae52bfac5a881e2f0ddcadd747d75f9982702670d0a0b49", func := "beacon/beaconlaw19.ForwardRoads", spec := "forwardRoads", inPlace := ["math.Float64bits", "math.archTrunc", "math.Float64frombits"], unfollowed := true, recurses := true, apart := false, narrowed := true }
def ForwardRoadsUptoSaid : Prop := forwardRoadsUptoRow.holds Try.pinned (OpenSpec.upto forwardRoadsSpec)

end Rows
end Go.Proofs.Ytgmjlhpigfaicaa
