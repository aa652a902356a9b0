/-
  No cell of these rows narrows 'for every input' (looked for: loops, veiled, ifaces, maps, wideKeys, modest, calm, conditions, laid).
  DERIVED. THE GIVEN ROWS OF THIS SEAT. 11 by the template 'for every input the law returns true; each argument reads behind the call as it read before'; 0 by the template 'total and deterministic' (their statements: YtdmkofbndeicfaaTotals.lean).
  GIVEN WITH THE SEED: the statements are not yours to turn. If you find one false, say at which input.
  Laid BY PROGRAM, IN A SANDBOX (cutbox-rows.mjs): the forced cells as the released guide's own fill.sh prints them over the translation d510ce8f1d0bd9a2… (all of the seat's roots in one cut). By AI agents, Wed Nov 11 2026. No macro, syntax, notation, axiom, sorry.
-/
import Derived.Test.YtdmkofbndeicfaaChecked
import GoSem.Claim
import GoSem.ClaimJoined
import GoSem.ClaimMapViews
import Derived.JoinedTies
import Derived.KernelRfl
namespace Go.Proofs.Ytdmkofbndeicfaa
/- THE CELL 'sum', in the pinned program and in every row, IS THE sha256 OF THE DUMP (.gsa) THAT YtdmkofbndeicfaaProg.lean LOADS. Nothing in Lean hashes anything: it is a label: what it is worth is what the hold of that sum in a sandbox is worth. -/
noncomputable def Try.pinned : Pinned := { name := "ytdmkofbndeicfaa", sum := "d510ce8f1d0bd9a2bdeed2eb37ad0774ec128d9e4be6154de8110947e93f1621", checked := Try.checked }
namespace Rows
def none {H : Type} : Left H := { results := [], args := [] }

/-- 'clerestorylaw3.MarginsMeet': WHATEVER THE INPUT: true; the input reads as it did. -/
def marginsMeetSpec : ChangeSpec := { name := "marginsMeet", fn := fun _ => fun
  | [d] => { results := [.lit (.bool true)], args := [d] }
  | _ => none }
def marginsMeetRow : OpenClaim := { program := "ytdmkofbndeicfaa", sum := "d510ce8f1d0bd9a2bdeed2eb37ad0774ec128d9e4be6154de8110947e93f1621", func := "clerestory/clerestorylaw3.MarginsMeet", spec := "marginsMeet", apart := false }
def MarginsMeetSaid : Prop := marginsMeetRow.holds Try.pinned (OpenSpec.ofChange marginsMeetSpec)

/-- ITS FALSE NEIGHBOUR: 'it returns false'. Refute it at one input. -/
def marginsMeetWrong : ChangeSpec := { name := "marginsMeet", fn := fun _ => fun
  | [d] => { results := [.lit (.bool false)], args := [d] }
  | _ => none }
def MarginsMeetWrongFalsely : Prop := marginsMeetRow.holds Try.pinned (OpenSpec.ofChange marginsMeetWrong)

/-- 'clerestorylaw3.FixParts': WHATEVER THE INPUT: true; the input reads as it did. -/
def fixPartsSpec : ChangeSpec := { name := "fixParts", fn := fun _ => fun
  | [d1, d2, d3, d4, d5] => { results := [.lit (.bool true)], args := [d1, d2, d3, d4, d5] }
  | _ => none }
def fixPartsRow : OpenClaim := { program := "ytdmkofbndeicfaa", sum := "d510ce8f1d0bd9a2bdeed2eb37ad0774ec128d9e4be6154de8110947e93f1621", func := "clerestory/clerestorylaw3.FixParts", spec := "fixParts", apart := false }
def FixPartsSaid : Prop := fixPartsRow.holds Try.pinned (OpenSpec.ofChange fixPartsSpec)

/-- ITS FALSE NEIGHBOUR: 'it returns false'. Refute it at one input. -/
def fixPartsWrong : ChangeSpec := { name := "fixParts", fn := fun _ => fun
  | [d1, d2, d3, d4, d5] => { results := [.lit (.bool false)], args := [d1, d2, d3, d4, d5] }
  | _ => none }
def FixPartsWrongFalsely : Prop := fixPartsRow.holds Try.pinned (OpenSpec.ofChange fixPartsWrong)

/-- 'clerestorylaw3.WhiteCollapses': WHATEVER THE INPUT: true; the input reads as it did. -/
def whiteCollapsesSpec : ChangeSpec := { name := "whiteCollapses", fn := fun _ => fun
  | [d1, d2, d3] => { results := [.lit (.bool true)], args := [d1, d2, d3] }
  | _ => none }
def whiteCollapsesRow : OpenClaim := { program := "ytdmkofbndeicfaa", sum := "d510ce8f1d0bd9a2bdeed2eb37ad0774ec128d9e4be6154de8110947e93f1621", func := "clerestory/clerestorylaw3.WhiteCollapses", spec := "whiteCollapses", inPlace := ["internal/bytealg.IndexByteString"], apart := false }
def WhiteCollapsesSaid : Prop := whiteCollapsesRow.holds Try.pinned (OpenSpec.ofChange whiteCollapsesSpec)

/-- ITS FALSE NEIGHBOUR: 'it returns false'. Refute it at one input. -/
def whiteCollapsesWrong : ChangeSpec := { name := "whiteCollapses", fn := fun _ => fun
  | [d1, d2, d3] => { results := [.lit (.bool false)], args := [d1, d2, d3] }
  | _ => none }
def WhiteCollapsesWrongFalsely : Prop := whiteCollapsesRow.holds Try.pinned (OpenSpec.ofChange whiteCollapsesWrong)

/-- 'clerestorylaw3.FixOfs': WHATEVER THE INPUT: true; the input reads as it did. -/
def fixOfsSpec : ChangeSpec := { name := "fixOfs", fn := fun _ => fun
  | [d1, d2] => { results := [.lit (.bool true)], args := [d1, d2] }
  | _ => none }
def fixOfsRow : OpenClaim := { program := "ytdmkofbndeicfaa", sum := "d510ce8f1d0bd9a2bdeed2eb37ad0774ec128d9e4be6154de8110947e93f1621", func := "clerestory/clerestorylaw3.FixOfs", spec := "fixOfs", apart := false }
def FixOfsSaid : Prop := fixOfsRow.holds Try.pinned (OpenSpec.ofChange fixOfsSpec)

/-- ITS FALSE NEIGHBOUR: 'it returns false'. Refute it at one input. -/
def fixOfsWrong : ChangeSpec := { name := "fixOfs", fn := fun _ => fun
  | [d1, d2] => { results := [.lit (.bool false)], args := [d1, d2] }
  | _ => none }
def FixOfsWrongFalsely : Prop := fixOfsRow.holds Try.pinned (OpenSpec.ofChange fixOfsWrong)

/-- 'clerestorylaw3.BoxesChecks': WHATEVER THE INPUT: true; the input reads as it did. -/
def boxesChecksSpec : ChangeSpec := { name := "boxesChecks", fn := fun _ => fun
  | [d] => { results := [.lit (.bool true)], args := [d] }
  | _ => none }
def boxesChecksRow : OpenClaim := { program := "ytdmkofbndeicfaa", sum := "d510ce8f1d0bd9a2bdeed2eb37ad0774ec128d9e4be6154de8110947e93f1621", func := "clerestory/clerestorylaw3.BoxesChecks", spec := "boxesChecks", apart := false }
def BoxesChecksSaid : Prop := boxesChecksRow.holds Try.pinned (OpenSpec.ofChange boxesChecksSpec)

/-- ITS FALSE NEIGHBOUR: 'it returns false'. Refute it at one input. -/
def boxesChecksWrong : ChangeSpec := { name := "boxesChecks", fn := fun _ => fun
  | [d] => { results := [.lit (.bool false)], args := [d] }
  | _ => none }
def BoxesChecksWrongFalsely : Prop := boxesChecksRow.holds Try.pinned (OpenSpec.ofChange boxesChecksWrong)

/-- 'clerestorylaw3.FixShares': WHATEVER THE INPUT: true; the input reads as it did. -/
def fixSharesSpec : ChangeSpec := { name := "fixShares", fn := fun _ => fun
  | [d1, d2] => { results := [.lit (.bool true)], args := [d1, d2] }
  | _ => none }
def fixSharesRow : OpenClaim := { program := "ytdmkofbndeicfaa", sum := "d510ce8f1d0bd9a2bdeed2eb37ad0774ec128d9e4be6154de8110947e93f1621", func := "clerestory/clerestorylaw3.FixShares", spec := "fixShares", unfollowed := true, recurses := true, apart := false }
def FixSharesSaid : Prop := fixSharesRow.holds Try.pinned (OpenSpec.ofChange fixSharesSpec)

/-- ITS FALSE NEIGHBOUR: 'it returns false'. Refute it at one input. -/
def fixSharesWrong : ChangeSpec := { name := "fixShares", fn := fun _ => fun
  | [d1, d2] => { results := [.lit (.bool false)], args := [d1, d2] }
  | _ => none }
def FixSharesWrongFalsely : Prop := fixSharesRow.holds Try.pinned (OpenSpec.ofChange fixSharesWrong)

/-- 'clerestorylaw3.BreaksAll': WHATEVER THE INPUT: true; the input reads as it did. -/
def breaksAllSpec : ChangeSpec := { name := "breaksAll", fn := fun _ => fun
  | [d1, d2] => { results := [.lit (.bool true)], args := [d1, d2] }
  | _ => none }
def breaksAllRow : OpenClaim := { program := "ytdmkofbndeicfaa", sum := "d510ce8f1d0bd9a2bdeed2eb37ad0774ec128d9e4be6154de8110947e93f1621", func := "clerestory/clerestorylaw3.BreaksAll", spec := "breaksAll", unfollowed := true, recurses := true, apart := false }
def BreaksAllSaid : Prop := breaksAllRow.holds Try.pinned (OpenSpec.ofChange breaksAllSpec)

/-- ITS FALSE NEIGHBOUR: 'it returns false'. Refute it at one input. -/
def breaksAllWrong : ChangeSpec := { name := "breaksAll", fn := fun _ => fun
  | [d1, d2] => { results := [.lit (.bool false)], args := [d1, d2] }
  | _ => none }
def BreaksAllWrongFalsely : Prop := breaksAllRow.holds Try.pinned (OpenSpec.ofChange breaksAllWrong)

/-- 'clerestorylaw3.BreaksPieces': WHATEVER THE INPUT: true; the input reads as it did. -/
def breaksPiecesSpec : ChangeSpec := { name := "breaksPieces", fn := fun _ => fun
  | [d1, d2] => { results := [.lit (.bool true)], args := [d1, d2] }
  | _ => none }
def breaksPiecesRow : OpenClaim := { program := "ytdmkofbndeicfaa", sum := "d510ce8f1d0bd9a2bdeed2eb37ad0774ec128d9e4be6154de8110947e93f1621", func := "clerestory/clerestorylaw3.BreaksPieces", spec := "breaksPieces", unfollowed := true, recurses := true, apart := false }
def BreaksPiecesSaid : Prop := breaksPiecesRow.holds Try.pinned (OpenSpec.ofChange breaksPiecesSpec)

/-- ITS FALSE NEIGHBOUR: 'it returns false'. Refute it at one input. -/
def breaksPiecesWrong : ChangeSpec := { name := "breaksPieces", fn := fun _ => fun
  | [d1, d2] => { results := [.lit (.bool false)], args := [d1, d2] }
  | _ => none }
def BreaksPiecesWrongFalsely : Prop := breaksPiecesRow.holds Try.pinned (OpenSpec.ofChange breaksPiecesWrong)

/-- 'clerestorylaw3.MarginsFrame': WHATEVER THE INPUT: true; the input reads as it did. -/
def marginsFrameSpec : ChangeSpec := { name := "marginsFrame", fn := fun _ => fun
  | [d1, d2, d3] => { results := [.lit (.bool true)], args := [d1, d2, d3] }
  | _ => none }
def marginsFrameRow : OpenClaim := { program := "ytdmkofbndeicfaa", sum := "d510ce8f1d0bd9a2bdeed2eb37ad0774ec128d9e4be6154de8110947e93f1621", func := "clerestory/clerestorylaw3.MarginsFrame", spec := "marginsFrame", unfollowed := true, recurses := true, apart := false }
def MarginsFrameSaid : Prop := marginsFrameRow.holds Try.pinned (OpenSpec.ofChange marginsFrameSpec)

/-- ITS FALSE NEIGHBOUR: 'it returns false'. Refute it at one input. -/
def marginsFrameWrong : ChangeSpec := { name := "marginsFrame", fn := fun _ => fun
  | [d1, d2, d3] => { results := [.lit (.bool false)], args := [d1, d2, d3] }
  | _ => none }
def MarginsFrameWrongFalsely : Prop := marginsFrameRow.holds Try.pinned (OpenSpec.ofChange marginsFrameWrong)

/-- 'clerestorylaw3.FloatsPlace': WHATEVER THE INPUT: true; the input reads as it did. -/
def floatsPlaceSpec : ChangeSpec := { name := "floatsPlace", fn := fun _ => fun
  | [d1, d2, d3] => { results := [.lit (.bool true)], args := [d1, d2, d3] }
  | _ => none }
def floatsPlaceRow : OpenClaim := { program := "ytdmkofbndeicfaa", sum := "d510ce8f1d0bd9a2bdeed2eb37ad0774ec128d9e4be6154de8110947e93f1621", func := "clerestory/clerestorylaw3.FloatsPlace", spec := "floatsPlace", apart := false }
def FloatsPlaceSaid : Prop := floatsPlaceRow.holds Try.pinned (OpenSpec.ofChange floatsPlaceSpec)

/-- ITS FALSE NEIGHBOUR: 'it returns false'. Refute it at one input. -/
def floatsPlaceWrong : ChangeSpec := { name := "floatsPlace", fn := fun _ => fun
  | [d1, d2, d3] => { results := [.lit (.bool false)], args := [d1, d2, d3] }
  | _ => none }
def FloatsPlaceWrongFalsely : Prop := floatsPlaceRow.holds Try.pinned (OpenSpec.ofChange floatsPlaceWrong)

/-- 'clerestorylaw3.FloatsEdges': WHATEVER THE INPUT: true; the input reads as it did. -/
def floatsEdgesSpec : ChangeSpec := { name := "floatsEdges", fn := fun _ => fun
  | [d1, d2, d3, d4, d5] => { results := [.lit (.bool true)], args := [d1, d2, d3, d4, d5] }
  | _ => none }
def floatsEdgesRow : OpenClaim := { program := "ytdmkofbndeicfaa", sum := "d510ce8f1d0bd9a2bdeed2eb37ad0774ec128d9e4be6154de8110947e93f1621", func := "clerestory/clerestorylaw3.FloatsEdges", spec := "floatsEdges", apart := false }
def FloatsEdgesSaid : Prop := floatsEdgesRow.holds Try.pinned (OpenSpec.ofChange floatsEdgesSpec)

/-- ITS FALSE NEIGHBOUR: 'it returns false'. Refute it at one input. -/
def floatsEdgesWrong : ChangeSpec := { name := "floatsEdges", fn := fun _ => fun
  | [d1, d2, d3, d4, d5] => { results := [.lit (.bool false)], args := [d1, d2, d3, d4, d5] }
  | _ => none }
def FloatsEdgesWrongFalsely : Prop := floatsEdgesRow.holds Try.pinned (OpenSpec.ofChange floatsEdgesWrong)

/- THE SECOND FORM. 'bulk': how many values and letters a reading holds, each counted each time it is reached (what is shared counts as often as it is met; a slice's spare places count too). A statement '..UptoSaid' is the law's where the arguments, and the package variables that the reading takes, are together of bulk at most 1048576: NARROWER than '..Said'. Prove '..Said' where nothing that the law and all that it calls make is longer than what came in: it says more and counts as full. Else prove '..UptoSaid'. A law counts once. -/
mutual
def uptoBulk {H : Type} : DataW H → Nat
  | .lit (.string bytes) => bytes.length + 1
  | .lit _ => 1
  | .nil => 1
  | .ptr d => uptoBulk d + 1
  | .slice elems spare => uptoBulkAll elems + uptoBulkAll spare + 1
  | .agg parts => uptoBulkAll parts + 1
  | .iface _ d => uptoBulk d + 1
  | .map entries => uptoBulkEntries entries + 1
  | .held _ => 1
def uptoBulkAll {H : Type} : List (DataW H) → Nat
  | [] => 0
  | d :: r => uptoBulk d + uptoBulkAll r
def uptoBulkEntries {H : Type} : List (Lit × DataW H) → Nat
  | [] => 0
  | x :: r => uptoBulkEntry x + uptoBulkEntries r
def uptoBulkEntry {H : Type} : Lit × DataW H → Nat
  | (.string bytes, d) => bytes.length + uptoBulk d + 1
  | (_, d) => uptoBulk d + 1
 end
def uptoSmall : (H : Type) → List (DataW H) → Bool := fun _ ds => decide (uptoBulkAll ds ≤ 1048576)
def OpenSpec.upto (s : _root_.Go.ChangeSpec) : _root_.Go.OpenSpec := { _root_.Go.OpenSpec.ofChange s with cond := some uptoSmall }

/-- 'clerestorylaw3.MarginsMeet', WHERE WHAT IT READS IS OF BULK AT MOST 1048576: true; the input reads as it did. -/
def marginsMeetUptoRow : OpenClaim := { program := "ytdmkofbndeicfaa", sum := "d510ce8f1d0bd9a2bdeed2eb37ad0774ec128d9e4be6154de8110947e93f1621", func := "clerestory/clerestorylaw3.MarginsMeet", spec := "marginsMeet", apart := false, narrowed := true }
def MarginsMeetUptoSaid : Prop := marginsMeetUptoRow.holds Try.pinned (OpenSpec.upto marginsMeetSpec)

/-- 'clerestorylaw3.FixParts', WHERE WHAT IT READS IS OF BULK AT MOST 1048576: true; the input reads as it did. -/
def fixPartsUptoRow : OpenClaim := { program := "ytdmkofbndeicfaa", sum := "d510ce8f1d0bd9a2bdeed2eb37ad0774ec128d9e4be6154de8110947e93f1621", func := "clerestory/clerestorylaw3.FixParts", spec := "fixParts", apart := false, narrowed := true }
def FixPartsUptoSaid : Prop := fixPartsUptoRow.holds Try.pinned (OpenSpec.upto fixPartsSpec)

/-- 'clerestorylaw3.WhiteCollapses', WHERE WHAT IT READS IS OF BULK AT MOST 1048576: true; the input reads as it did. -/
def whiteCollapsesUptoRow : OpenClaim := { program := "ytdmkofbndeicfaa", sum := "d510ce8f1d0bd9a2bdeed2eb37ad0774ec128d9e4be6154de8110947e93f1621", func := "clerestory/clerestorylaw3.WhiteCollapses", spec := "whiteCollapses", inPlace := ["internal/bytealg.IndexByteString"], apart := false, narrowed := true }
def WhiteCollapsesUptoSaid : Prop := whiteCollapsesUptoRow.holds Try.pinned (OpenSpec.upto whiteCollapsesSpec)

/-- 'clerestorylaw3.FixOfs', WHERE WHAT IT READS IS OF BULK AT MOST 1048576: true; the input reads as it did. -/
def fixOfsUptoRow : OpenClaim := { program := "ytdmkofbndeicfaa", sum := "d510ce8f1d0bd9a2bdeed2eb37ad0774ec128d9e4be6154de8110947e93f1621", func := "clerestory/clerestorylaw3.FixOfs", spec := "fixOfs", apart := false, narrowed := true }
def FixOfsUptoSaid : Prop := fixOfsUptoRow.holds Try.pinned (OpenSpec.upto fixOfsSpec)

/-- 'clerestorylaw3.BoxesChecks', WHERE WHAT IT READS IS OF BULK AT MOST 1048576: true; the input reads as it did. -/
def boxesChecksUptoRow : OpenClaim := { program := "ytdmkofbndeicfaa", sum := "d510ce8f1d0bd9a2bdeed2eb37ad0774ec128d9e4be6154de8110947e93f1621", func := "clerestory/clerestorylaw3.BoxesChecks", spec := "boxesChecks", apart := false, narrowed := true }
def BoxesChecksUptoSaid : Prop := boxesChecksUptoRow.holds Try.pinned (OpenSpec.upto boxesChecksSpec)

/-- 'clerestorylaw3.FixShares', WHERE WHAT IT READS IS OF BULK AT MOST 1048576: true; the input reads as it did. -/
def fixSharesUptoRow : OpenClaim := { program := "ytdmkofbndeicfaa", sum := "d510ce8f1d0bd9a2bdeed2eb37ad0774ec128d9e4be6154de8110947e93f1621", func := "clerestory/clerestorylaw3.FixShares", spec := "fixShares", unfollowed := true, recurses := true, apart := false, narrowed := true }
def FixSharesUptoSaid : Prop := fixSharesUptoRow.holds Try.pinned (OpenSpec.upto fixSharesSpec)

/-- 'clerestorylaw3.BreaksAll', WHERE WHAT IT READS IS OF BULK AT MOST 1048576: true; the input reads as it did. -/
def breaksAllUptoRow : OpenClaim := { program := "ytdmkofbndeicfaa", sum := "d510ce8f1d0bd9a2bdeed2eb37ad0774ec128d9e4be6154de8110947e93f1621", func := "clerestory/clerestorylaw3.BreaksAll", spec := "breaksAll", unfollowed := true, recurses := true, apart := false, narrowed := true }
def BreaksAllUptoSaid : Prop := breaksAllUptoRow.holds Try.pinned (OpenSpec.upto breaksAllSpec)

/-- 'clerestorylaw3.BreaksPieces', WHERE WHAT IT READS IS OF BULK AT MOST 1048576: true; the input reads as it did. -/
def breaksPiecesUptoRow : OpenClaim := { program := "ytdmkofbndeicfaa", sum := "d510ce8f1d0bd9a2bdeed2eb37ad0774ec128d9e4be6154de8110947e93f1621", func := "clerestory/clerestorylaw3.BreaksPieces", spec := "breaksPieces", unfollowed := true, recurses := true, apart := false, narrowed := true }
def BreaksPiecesUptoSaid : Prop := breaksPiecesUptoRow.holds Try.pinned (OpenSpec.upto breaksPiecesSpec)

/-- 'clerestorylaw3.MarginsFrame', WHERE WHAT IT READS IS OF BULK AT MOST 1048576: true; the input reads as it did. -/
def marginsFrameUptoRow : OpenClaim := { program := "ytdmkofbndeicfaa", sum := "d510ce8f1d0bd9a2bdeed2eb37ad0774ec128d9e4be6154de8110947e93f1621", func := "clerestory/clerestorylaw3.MarginsFrame", spec := "marginsFrame", unfollowed := true, recurses := true, apart := false, narrowed := true }
def MarginsFrameUptoSaid : Prop := marginsFrameUptoRow.holds Try.pinned (OpenSpec.upto marginsFrameSpec)

/-- 'clerestorylaw3.FloatsPlace', WHERE WHAT IT READS IS OF BULK AT MOST 1048576: true; the input reads as it did. -/
def floatsPlaceUptoRow : OpenClaim := { program := "ytdmkofbndeicfaa", sum := "d510ce8f1d0bd9a2bdeed2eb37ad0774ec128d9e4be6154de8110947e93f1621", func := "clerestory/clerestorylaw3.FloatsPlace", spec := "floatsPlace", apart := false, narrowed := true }
def FloatsPlaceUptoSaid : Prop := floatsPlaceUptoRow.holds Try.pinned (OpenSpec.upto floatsPlaceSpec)

/-- 'clerestorylaw3.FloatsEdges', WHERE WHAT IT READS IS OF BULK AT MOST 1048576: true; the input reads as it did. -/
def floatsEdgesUptoRow : OpenClaim := { program := "ytdmkofbndeicfaa", sum := "d510ce8f1d0bd9a2bdeed2eb37ad0774ec128d9e4be6154de8110947e93f1621", func := "clerestory/clerestorylaw3.FloatsEdges", spec := "floatsEdges", apart := false, narrowed := true }
def FloatsEdgesUptoSaid : Prop := floatsEdgesUptoRow.holds Try.pinned (OpenSpec.upto floatsEdgesSpec)

end Rows
end Go.Proofs.Ytdmkofbndeicfaa
