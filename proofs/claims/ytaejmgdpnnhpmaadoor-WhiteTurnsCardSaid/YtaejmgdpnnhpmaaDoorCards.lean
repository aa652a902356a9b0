/-
  DERIVED. GIVEN WITH THE SEED: THE CARDS: each row of YtaejmgdpnnhpmaaDoorRows.lean that lists a variable, with what it lists TIED to the program's text (the seventh form; the later family's looks); each row that meets fmt, with fmt's text TOLD by the authors' own Lean function (tested against real Go, not proved from fmt's source: count such statements apart). THE CARD IS WHAT COUNTS. Prove the row's statement (the work); the ties are given (YtaejmgdpnnhpmaaDoorTie.lean); close each card by the builder's one call (the guide's Derived/Test/ToyasCard.lean, 'card_holds'). Laid BY PROGRAM, IN A SANDBOX (cutbox-door.mjs). By AI agents, Wed Nov 11 2026. No macro, syntax, notation, axiom, sorry.
-/
import Derived.Test.YtaejmgdpnnhpmaaDoorRows
import GoSem.ClaimSeven
namespace Go.Proofs.YtaejmgdpnnhpmaaDoor
namespace Rows

/-- THE TIED CARD OF 'clerestorylaw3.ItemsMake'. -/
def itemsMakeCard : Claim7 := { stood := { row := itemsMakeRow, standIns := [], harness := (true, "3687d395f2907f7727cb2d12fc3709140d1ab3dc8153dff7f34a4b237e4d4068"), looks := false }, kinds := [], alts := [], laidByText := true, laidKinds := [.data, .pinned], laidTests := true, laidLooks := .later }
def ItemsMakeCardSaid : Prop := Claim7.holds Tryd.pinned (.plain (OpenSpec.ofChange itemsMakeSpec)) itemsMakeCard

/-- THE TIED CARD OF 'clerestorylaw3.WhiteTurns'. -/
def whiteTurnsCard : Claim7 := { stood := { row := whiteTurnsRow, standIns := [], harness := (true, "3687d395f2907f7727cb2d12fc3709140d1ab3dc8153dff7f34a4b237e4d4068"), looks := false }, kinds := [], alts := [], laidByText := true, laidKinds := [.data, .pinned], laidTests := true, laidLooks := .later }
def WhiteTurnsCardSaid : Prop := Claim7.holds Tryd.pinned (.plain (OpenSpec.ofChange whiteTurnsSpec)) whiteTurnsCard

/-- THE SECOND FORM's CARD OF 'clerestorylaw3.ItemsMake'. -/
def itemsMakeUptoCard : Claim7 := { stood := { row := itemsMakeUptoRow, standIns := [], harness := (true, "3687d395f2907f7727cb2d12fc3709140d1ab3dc8153dff7f34a4b237e4d4068"), looks := false }, kinds := [], alts := [], laidByText := true, laidKinds := [.data, .pinned], laidTests := true, laidLooks := .later }
def ItemsMakeUptoCardSaid : Prop := Claim7.holds Tryd.pinned (.plain (OpenSpec.upto itemsMakeSpec)) itemsMakeUptoCard

/-- THE SECOND FORM's CARD OF 'clerestorylaw3.WhiteTurns'. -/
def whiteTurnsUptoCard : Claim7 := { stood := { row := whiteTurnsUptoRow, standIns := [], harness := (true, "3687d395f2907f7727cb2d12fc3709140d1ab3dc8153dff7f34a4b237e4d4068"), looks := false }, kinds := [], alts := [], laidByText := true, laidKinds := [.data, .pinned], laidTests := true, laidLooks := .later }
def WhiteTurnsUptoCardSaid : Prop := Claim7.holds Tryd.pinned (.plain (OpenSpec.upto whiteTurnsSpec)) whiteTurnsUptoCard
end Rows
end Go.Proofs.YtaejmgdpnnhpmaaDoor
