/-
  DERIVED. GIVEN WITH THE SEED: THE CARDS: each row of YtbcclpbnmhbhpaaDoorRows.lean that lists a variable, with what it lists TIED to the program's text (the seventh form; the later family's looks); each row that meets fmt, with fmt's text TOLD by the authors' own Lean function (tested against real Go, not proved from fmt's source: count such statements apart). THE CARD IS WHAT COUNTS. Prove the row's statement (the work); the ties are given (YtbcclpbnmhbhpaaDoorTie.lean); close each card by the builder's one call (the guide's Derived/Test/ToyasCard.lean, 'card_holds'). Laid BY PROGRAM, IN A SANDBOX (cutbox-door.mjs). By AI agents, Wed Nov 11 2026. No macro, syntax, notation, axiom, sorry.
-/
import Derived.Test.YtbcclpbnmhbhpaaDoorRows
import GoSem.ClaimSeven
namespace Go.Proofs.YtbcclpbnmhbhpaaDoor
namespace Rows

/-- THE TIED CARD OF 'beaconlaw03.GuardMusts'. -/
def guardMustsCard : Claim7 := { stood := { row := guardMustsRow, standIns := [], harness := (true, "ef147f7cb6c24163a6dd9724c5410ecb01eb40e309065d5b426924bd93e1d23d"), looks := true }, kinds := [], alts := [], laidByText := true, laidKinds := [.handle], laidTests := true, laidLooks := .later }
def GuardMustsCardSaid : Prop := Claim7.holds Tryd.pinned (.plain (OpenSpec.ofChange guardMustsSpec)) guardMustsCard

/-- THE SECOND FORM's CARD OF 'beaconlaw03.GuardMusts'. -/
def guardMustsUptoCard : Claim7 := { stood := { row := guardMustsUptoRow, standIns := [], harness := (true, "ef147f7cb6c24163a6dd9724c5410ecb01eb40e309065d5b426924bd93e1d23d"), looks := true }, kinds := [], alts := [], laidByText := true, laidKinds := [.handle], laidTests := true, laidLooks := .later }
def GuardMustsUptoCardSaid : Prop := Claim7.holds Tryd.pinned (.plain (OpenSpec.upto guardMustsSpec)) guardMustsUptoCard
end Rows
end Go.Proofs.YtbcclpbnmhbhpaaDoor
