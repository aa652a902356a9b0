/-
  DERIVED. GIVEN WITH THE SEED: THE CARDS: each row of YtmaalgnedojfjaaDoorRows.lean that lists a variable, with what it lists TIED to the program's text (the seventh form; the later family's looks); each row that meets fmt, with fmt's text TOLD by the authors' own Lean function (tested against real Go, not proved from fmt's source: count such statements apart). THE CARD IS WHAT COUNTS. Prove the row's statement (the work); the ties are given (YtmaalgnedojfjaaDoorTie.lean); close each card by the builder's one call (the guide's Derived/Test/ToyasCard.lean, 'card_holds'). Laid BY PROGRAM, IN A SANDBOX (cutbox-door.mjs). By AI agents, Wed Nov 11 2026. No macro, syntax, notation, axiom, sorry.
-/
import Derived.Test.YtmaalgnedojfjaaDoorRows
import GoSem.ClaimSeven
namespace Go.Proofs.YtmaalgnedojfjaaDoor
namespace Rows

/-- THE TIED CARD OF 'clerestorylaw3.BoxesLooks'. -/
def boxesLooksCard : Claim7 := { stood := { row := boxesLooksRow, standIns := [], harness := (true, "01acdcd1299d7faba4e21311e5211583cff3d6e958ec28a383e9a7d41292e8dc"), looks := false }, kinds := [], alts := [], laidByText := true, laidKinds := [.data], laidTests := true, laidLooks := .later }
def BoxesLooksCardSaid : Prop := Claim7.holds Tryd.pinned (.plain (OpenSpec.ofChange boxesLooksSpec)) boxesLooksCard

/-- THE TIED CARD OF 'clerestorylaw3.StackOrder'. -/
def stackOrderCard : Claim7 := { stood := { row := stackOrderRow, standIns := [], harness := (true, "01acdcd1299d7faba4e21311e5211583cff3d6e958ec28a383e9a7d41292e8dc"), looks := false }, kinds := [], alts := [], laidByText := true, laidKinds := [.data], laidTests := true, laidLooks := .later }
def StackOrderCardSaid : Prop := Claim7.holds Tryd.pinned (.plain (OpenSpec.ofChange stackOrderSpec)) stackOrderCard

/-- THE SECOND FORM's CARD OF 'clerestorylaw3.BoxesLooks'. -/
def boxesLooksUptoCard : Claim7 := { stood := { row := boxesLooksUptoRow, standIns := [], harness := (true, "01acdcd1299d7faba4e21311e5211583cff3d6e958ec28a383e9a7d41292e8dc"), looks := false }, kinds := [], alts := [], laidByText := true, laidKinds := [.data], laidTests := true, laidLooks := .later }
def BoxesLooksUptoCardSaid : Prop := Claim7.holds Tryd.pinned (.plain (OpenSpec.upto boxesLooksSpec)) boxesLooksUptoCard

/-- THE SECOND FORM's CARD OF 'clerestorylaw3.StackOrder'. -/
def stackOrderUptoCard : Claim7 := { stood := { row := stackOrderUptoRow, standIns := [], harness := (true, "01acdcd1299d7faba4e21311e5211583cff3d6e958ec28a383e9a7d41292e8dc"), looks := false }, kinds := [], alts := [], laidByText := true, laidKinds := [.data], laidTests := true, laidLooks := .later }
def StackOrderUptoCardSaid : Prop := Claim7.holds Tryd.pinned (.plain (OpenSpec.upto stackOrderSpec)) stackOrderUptoCard
end Rows
end Go.Proofs.YtmaalgnedojfjaaDoor
