/-
  DERIVED. GIVEN WITH THE SEED: THE CARDS: each row of YtegllbmkkfnajaaGreatDoorRows.lean that lists a variable, with what it lists TIED to the program's text (the seventh form; the later family's looks); each row that meets fmt, with fmt's text TOLD by the authors' own Lean function (tested against real Go, not proved from fmt's source: count such statements apart). THE CARD IS WHAT COUNTS. Prove the row's statement (the work); the ties are given (YtegllbmkkfnajaaGreatDoorTie.lean); close each card by the builder's one call (the guide's Derived/Test/ToyasCard.lean, 'card_holds'). Laid BY PROGRAM, IN A SANDBOX (cutbox-door.mjs). By AI agents, Wed Nov 11 2026. No macro, syntax, notation, axiom, sorry.
-/
import Derived.Test.YtegllbmkkfnajaaGreatDoorRows
import GoSem.ClaimSeven
namespace Go.Proofs.YtegllbmkkfnajaaGreatDoor
namespace Rows

/-- THE TIED CARD OF 'taximeterlaw19.VaultNobody'. -/
def vaultNobodyCard : Claim7 := { stood := { row := vaultNobodyRow, standIns := [], harness := (true, "be47d8987852ba47b19bbbaa5e8b5c41076e6763f54523de3beea5475a730fe9"), looks := true }, kinds := [], alts := [], laidByText := true, laidKinds := [.data], laidTests := true, laidLooks := .later }
def VaultNobodyCardSaid : Prop := Claim7.holds Tryz.pinned (.plain (OpenSpec.ofChange vaultNobodySpec)) vaultNobodyCard

/-- THE SECOND FORM's CARD OF 'taximeterlaw19.VaultNobody'. -/
def vaultNobodyUptoCard : Claim7 := { stood := { row := vaultNobodyUptoRow, standIns := [], harness := (true, "be47d8987852ba47b19bbbaa5e8b5c41076e6763f54523de3beea5475a730fe9"), looks := true }, kinds := [], alts := [], laidByText := true, laidKinds := [.data], laidTests := true, laidLooks := .later }
def VaultNobodyUptoCardSaid : Prop := Claim7.holds Tryz.pinned (.plain (OpenSpec.upto vaultNobodySpec)) vaultNobodyUptoCard
end Rows
end Go.Proofs.YtegllbmkkfnajaaGreatDoor
