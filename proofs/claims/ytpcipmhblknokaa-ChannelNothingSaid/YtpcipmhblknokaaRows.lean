/-
  No cell of these rows narrows 'for every input' (looked for: loops, veiled, ifaces, maps, wideKeys, modest, calm, conditions, laid).
  DERIVED. THE GIVEN ROWS OF THIS SEAT. 5 by the template 'for every input the law returns true; each argument reads behind the call as it read before'; 0 by the template 'total and deterministic' (their statements: YtpcipmhblknokaaTotals.lean).
  GIVEN WITH THE SEED: the statements are not yours to turn. If you find one false, say at which input.
  Laid BY PROGRAM, IN A SANDBOX (cutbox-rows.mjs): the forced cells as the released guide's own fill.sh prints them over the translation f2c2e5674b62e72f… (all of the seat's roots in one cut). By AI agents, Wed Nov 11 2026. No macro, syntax, notation, axiom, sorry.
-/
import Derived.Test.YtpcipmhblknokaaChecked
import GoSem.Claim
import GoSem.ClaimJoined
import GoSem.ClaimMapViews
import Derived.JoinedTies
import Derived.KernelRfl
namespace Go.Proofs.Ytpcipmhblknokaa
/- THE CELL 'sum', in the pinned program and in every row, IS THE sha256 OF THE DUMP (.gsa) THAT YtpcipmhblknokaaProg.lean LOADS. Nothing in Lean hashes anything: it is a label: what it is worth is what the hold of that sum in a sandbox is worth. -/
noncomputable def Try.pinned : Pinned := { name := "ytpcipmhblknokaa", sum := "f2c2e5674b62e72fa92397667571cfe74f54b63f6e3beea1ff42ba46c69d195a", checked := Try.checked }
namespace Rows
def none {H : Type} : Left H := { results := [], args := [] }

/-- 'beaconlaw11.ChannelNothing': WHATEVER THE INPUT: true; the input reads as it did. -/
def channelNothingSpec : ChangeSpec := { name := "channelNothing", fn := fun _ => fun
  | [d] => { results := [.lit (.bool true)], args := [d] }
  | _ => none }
def channelNothingRow : OpenClaim := { program := "ytpcipmhblknokaa", sum := "f2c2e5674b62e72fa92397667571cfe74f54b63f6e3beea1ff42ba46c69d195a", func := "beacon/beaconlaw11.ChannelNothing", spec := "channelNothing", unfollowed := true, recurses := true, plainKeys := false, apart := false }
def ChannelNothingSaid : Prop := channelNothingRow.holds Try.pinned (OpenSpec.ofChange channelNothingSpec)

/-- ITS FALSE NEIGHBOUR: 'it returns false'. Refute it at one input. -/
def channelNothingWrong : ChangeSpec := { name := "channelNothing", fn := fun _ => fun
  | [d] => { results := [.lit (.bool false)], args := [d] }
  | _ => none }
def ChannelNothingWrongFalsely : Prop := channelNothingRow.holds Try.pinned (OpenSpec.ofChange channelNothingWrong)

/-- 'beaconlaw11.ChannelOrder': WHATEVER THE INPUT: true; the input reads as it did. -/
def channelOrderSpec : ChangeSpec := { name := "channelOrder", fn := fun _ => fun
  | [d1, d2] => { results := [.lit (.bool true)], args := [d1, d2] }
  | _ => none }
def channelOrderRow : OpenClaim := { program := "ytpcipmhblknokaa", sum := "f2c2e5674b62e72fa92397667571cfe74f54b63f6e3beea1ff42ba46c69d195a", func := "beacon/beaconlaw11.ChannelOrder", spec := "channelOrder", unfollowed := true, recurses := true, plainKeys := false, apart := false }
def ChannelOrderSaid : Prop := channelOrderRow.holds Try.pinned (OpenSpec.ofChange channelOrderSpec)

/-- ITS FALSE NEIGHBOUR: 'it returns false'. Refute it at one input. -/
def channelOrderWrong : ChangeSpec := { name := "channelOrder", fn := fun _ => fun
  | [d1, d2] => { results := [.lit (.bool false)], args := [d1, d2] }
  | _ => none }
def ChannelOrderWrongFalsely : Prop := channelOrderRow.holds Try.pinned (OpenSpec.ofChange channelOrderWrong)

/-- 'beaconlaw11.ChannelApart': WHATEVER THE INPUT: true; the input reads as it did. -/
def channelApartSpec : ChangeSpec := { name := "channelApart", fn := fun _ => fun
  | [d1, d2] => { results := [.lit (.bool true)], args := [d1, d2] }
  | _ => none }
def channelApartRow : OpenClaim := { program := "ytpcipmhblknokaa", sum := "f2c2e5674b62e72fa92397667571cfe74f54b63f6e3beea1ff42ba46c69d195a", func := "beacon/beaconlaw11.ChannelApart", spec := "channelApart", unfollowed := true, recurses := true, plainKeys := false, apart := false }
def ChannelApartSaid : Prop := channelApartRow.holds Try.pinned (OpenSpec.ofChange channelApartSpec)

/-- ITS FALSE NEIGHBOUR: 'it returns false'. Refute it at one input. -/
def channelApartWrong : ChangeSpec := { name := "channelApart", fn := fun _ => fun
  | [d1, d2] => { results := [.lit (.bool false)], args := [d1, d2] }
  | _ => none }
def ChannelApartWrongFalsely : Prop := channelApartRow.holds Try.pinned (OpenSpec.ofChange channelApartWrong)

/-- 'beaconlaw11.ChannelPlays': WHATEVER THE INPUT: true; the input reads as it did. -/
def channelPlaysSpec : ChangeSpec := { name := "channelPlays", fn := fun _ => fun
  | [d1, d2] => { results := [.lit (.bool true)], args := [d1, d2] }
  | _ => none }
def channelPlaysRow : OpenClaim := { program := "ytpcipmhblknokaa", sum := "f2c2e5674b62e72fa92397667571cfe74f54b63f6e3beea1ff42ba46c69d195a", func := "beacon/beaconlaw11.ChannelPlays", spec := "channelPlays", unfollowed := true, recurses := true, plainKeys := false, apart := false }
def ChannelPlaysSaid : Prop := channelPlaysRow.holds Try.pinned (OpenSpec.ofChange channelPlaysSpec)

/-- ITS FALSE NEIGHBOUR: 'it returns false'. Refute it at one input. -/
def channelPlaysWrong : ChangeSpec := { name := "channelPlays", fn := fun _ => fun
  | [d1, d2] => { results := [.lit (.bool false)], args := [d1, d2] }
  | _ => none }
def ChannelPlaysWrongFalsely : Prop := channelPlaysRow.holds Try.pinned (OpenSpec.ofChange channelPlaysWrong)

/-- 'beaconlaw11.ChannelOwn': WHATEVER THE INPUT: true; the input reads as it did. -/
def channelOwnSpec : ChangeSpec := { name := "channelOwn", fn := fun _ => fun
  | [d] => { results := [.lit (.bool true)], args := [d] }
  | _ => none }
def channelOwnRow : OpenClaim := { program := "ytpcipmhblknokaa", sum := "f2c2e5674b62e72fa92397667571cfe74f54b63f6e3beea1ff42ba46c69d195a", func := "beacon/beaconlaw11.ChannelOwn", spec := "channelOwn", unfollowed := true, recurses := true, plainKeys := false, apart := false }
def ChannelOwnSaid : Prop := channelOwnRow.holds Try.pinned (OpenSpec.ofChange channelOwnSpec)

/-- ITS FALSE NEIGHBOUR: 'it returns false'. Refute it at one input. -/
def channelOwnWrong : ChangeSpec := { name := "channelOwn", fn := fun _ => fun
  | [d] => { results := [.lit (.bool false)], args := [d] }
  | _ => none }
def ChannelOwnWrongFalsely : Prop := channelOwnRow.holds Try.pinned (OpenSpec.ofChange channelOwnWrong)

/- THE SECOND FORM. 'bulk': how many values and letters a reading holds, each counted each time it is reached (what is shared counts as often as it is met; a slice's spare places count too). A statement '..UptoSaid' is the law's where the arguments, and the package variables that the reading takes, are together of bulk at most 1048576: NARROWER than '..Said'. Prove '..Said' where nothing that the law and all that it calls make is longer than what came in: it says more and counts as full. Else prove '..UptoSaid'. A law counts once. -/
mutual
def uptoBulk {H : Type} : DataW H → Nat
  | .lit (.string bytes) => bytes.length + 1
  | .lit _ => 1
  | .nil => 1
  | .ptr d => uptoBulk d + 1
  | .slice elems spare => uptoBulkAll elems + uptoBulkAll spare + 1
  | .agg parts => uptoBulkAll parts + 1
  | .iface _ d => uptoBulk d + 1
  | .map entries => uptoBulkEntries entries + 1
  | .held _ => 1
def uptoBulkAll {H : Type} : List (DataW H) → Nat
  | [] => 0
  | d :: r => uptoBulk d + uptoBulkAll r
def uptoBulkEntries {H : Type} : List (Lit × DataW H) → Nat
  | [] => 0
  | x :: r => uptoBulkEntry x + uptoBulkEntries r
def uptoBulkEntry {H : Type} : Lit × DataW H → Nat
  | (.string bytes, d) => bytes.length + uptoBulk d + 1
  | (_, d) => uptoBulk d + 1
 end
def uptoSmall : (H : Type) → List (DataW H) → Bool := fun _ ds => decide (uptoBulkAll ds ≤ 1048576)
def OpenSpec.upto (s : _root_.Go.ChangeSpec) : _root_.Go.OpenSpec := { _root_.Go.OpenSpec.ofChange s with cond := some uptoSmall }

/-- 'beaconlaw11.ChannelNothing', WHERE WHAT IT READS IS OF BULK AT MOST 1048576: true; the input reads as it did. -/
def channelNothingUptoRow : OpenClaim := { program := "ytpcipmhblknokaa", sum := "f2c2e5674b62e72fa92397667571cfe74f54b63f6e3beea1ff42ba46c69d195a", func := "beacon/beaconlaw11.ChannelNothing", spec := "channelNothing", unfollowed := true, recurses := true, plainKeys := false, apart := false, narrowed := true }
def ChannelNothingUptoSaid : Prop := channelNothingUptoRow.holds Try.pinned (OpenSpec.upto channelNothingSpec)

/-- 'beaconlaw11.ChannelOrder', WHERE WHAT IT READS IS OF BULK AT MOST 1048576: true; the input reads as it did. -/
def channelOrderUptoRow : OpenClaim := { program := "ytpcipmhblknokaa", sum := "f2c2e5674b62e72fa92397667571cfe74f54b63f6e3beea1ff42ba46c69d195a", func := "beacon/beaconlaw11.ChannelOrder", spec := "channelOrder", unfollowed := true, recurses := true, plainKeys := false, apart := false, narrowed := true }
def ChannelOrderUptoSaid : Prop := channelOrderUptoRow.holds Try.pinned (OpenSpec.upto channelOrderSpec)

/-- 'beaconlaw11.ChannelApart', WHERE WHAT IT READS IS OF BULK AT MOST 1048576: true; the input reads as it did. -/
def channelApartUptoRow : OpenClaim := { program := "ytpcipmhblknokaa", sum := "f2c2e5674b62e72fa92397667571cfe74f54b63f6e3beea1ff42ba46c69d195a", func := "beacon/beaconlaw11.ChannelApart", spec := "channelApart", unfollowed := true, recurses := true, plainKeys := false, apart := false, narrowed := true }
def ChannelApartUptoSaid : Prop := channelApartUptoRow.holds Try.pinned (OpenSpec.upto channelApartSpec)

/-- 'beaconlaw11.ChannelPlays', WHERE WHAT IT READS IS OF BULK AT MOST 1048576: true; the input reads as it did. -/
def channelPlaysUptoRow : OpenClaim := { program := "ytpcipmhblknokaa", sum := "f2c2e5674b62e72fa92397667571cfe74f54b63f6e3beea1ff42ba46c69d195a", func := "beacon/beaconlaw11.ChannelPlays", spec := "channelPlays", unfollowed := true, recurses := true, plainKeys := false, apart := false, narrowed := true }
def ChannelPlaysUptoSaid : Prop := channelPlaysUptoRow.holds Try.pinned (OpenSpec.upto channelPlaysSpec)

/-- 'beaconlaw11.ChannelOwn', WHERE WHAT IT READS IS OF BULK AT MOST 1048576: true; the input reads as it did. -/
def channelOwnUptoRow : OpenClaim := { program := "ytpcipmhblknokaa", sum := "f2c2e5674b62e72fa92397667571cfe74f54b63f6e3beea1ff42ba46c69d195a", func := "beacon/beaconlaw11.ChannelOwn", spec := "channelOwn", unfollowed := true, recurses := true, plainKeys := false, apart := false, narrowed := true }
def ChannelOwnUptoSaid : Prop := channelOwnUptoRow.holds Try.pinned (OpenSpec.upto channelOwnSpec)

end Rows
end Go.Proofs.Ytpcipmhblknokaa
