/-
  No cell of these rows narrows 'for every input' (looked for: loops, veiled, ifaces, maps, wideKeys, modest, calm, conditions, laid).
  DERIVED. THE GIVEN ROWS OF THIS SEAT. 10 by the template 'for every input the law returns true; each argument reads behind the call as it read before'; 0 by the template 'total and deterministic' (their statements: YtaejmgdpnnhpmaaTotals.lean).
  GIVEN WITH THE SEED: the statements are not yours to turn. If you find one false, say at which input.
  Laid BY PROGRAM, IN A SANDBOX (cutbox-rows.mjs): the forced cells as the released guide's own fill.sh prints them over the translation ed05270dffe4f90e… (all of the seat's roots in one cut). By AI agents, Wed Nov 11 2026. No macro, syntax, notation, axiom, sorry.
-/
import Derived.Test.YtaejmgdpnnhpmaaChecked
import GoSem.Claim
import GoSem.ClaimJoined
import GoSem.ClaimMapViews
import Derived.JoinedTies
import Derived.KernelRfl
namespace Go.Proofs.Ytaejmgdpnnhpmaa
/- THE CELL 'sum', in the pinned program and in every row, IS THE sha256 OF THE DUMP (.gsa) THAT YtaejmgdpnnhpmaaProg.lean LOADS. Nothing in Lean hashes anything: it is a label: what it is worth is what the hold of that sum in a sandbox is worth. -/
noncomputable def Try.pinned : Pinned := { name := "ytaejmgdpnnhpmaa", sum := "ed05270dffe4f90e9cdf3e289d7d2b170544af452710f42530f165fb318ba2a9", checked := Try.checked }
namespace Rows
def none {H : Type} : Left H := { results := [], args := [] }

/-- 'clerestorylaw3.MarginsFrame': WHATEVER THE INPUT: true; the input reads as it did. -/
def marginsFrameSpec : ChangeSpec := { name := "marginsFrame", fn := fun _ => fun
  | [d1, d2, d3] => { results := [.lit (.bool true)], args := [d1, d2, d3] }
  | _ => none }
def marginsFrameRow : OpenClaim := { program := "ytaejmgdpnnhpmaa", sum := "ed05270dffe4f90e9cdf3e289d7d2b170544af452710f42530f165fb318ba2a9", func := "clerestory/clerestorylaw3.MarginsFrame", spec := "marginsFrame", unfollowed := true, recurses := true, apart := false }
def MarginsFrameSaid : Prop := marginsFrameRow.holds Try.pinned (OpenSpec.ofChange marginsFrameSpec)

/-- ITS FALSE NEIGHBOUR: 'it returns false'. Refute it at one input. -/
def marginsFrameWrong : ChangeSpec := { name := "marginsFrame", fn := fun _ => fun
  | [d1, d2, d3] => { results := [.lit (.bool false)], args := [d1, d2, d3] }
  | _ => none }
def MarginsFrameWrongFalsely : Prop := marginsFrameRow.holds Try.pinned (OpenSpec.ofChange marginsFrameWrong)

/-- 'clerestorylaw3.WidthsWide': WHATEVER THE INPUT: true; the input reads as it did. -/
def widthsWideSpec : ChangeSpec := { name := "widthsWide", fn := fun _ => fun
  | [d1, d2] => { results := [.lit (.bool true)], args := [d1, d2] }
  | _ => none }
def widthsWideRow : OpenClaim := { program := "ytaejmgdpnnhpmaa", sum := "ed05270dffe4f90e9cdf3e289d7d2b170544af452710f42530f165fb318ba2a9", func := "clerestory/clerestorylaw3.WidthsWide", spec := "widthsWide", unfollowed := true, recurses := true, apart := false }
def WidthsWideSaid : Prop := widthsWideRow.holds Try.pinned (OpenSpec.ofChange widthsWideSpec)

/-- ITS FALSE NEIGHBOUR: 'it returns false'. Refute it at one input. -/
def widthsWideWrong : ChangeSpec := { name := "widthsWide", fn := fun _ => fun
  | [d1, d2] => { results := [.lit (.bool false)], args := [d1, d2] }
  | _ => none }
def WidthsWideWrongFalsely : Prop := widthsWideRow.holds Try.pinned (OpenSpec.ofChange widthsWideWrong)

/-- 'clerestorylaw3.PaintFrags': WHATEVER THE INPUT: true; the input reads as it did. -/
def paintFragsSpec : ChangeSpec := { name := "paintFrags", fn := fun _ => fun
  | [d1, d2, d3] => { results := [.lit (.bool true)], args := [d1, d2, d3] }
  | _ => none }
def paintFragsRow : OpenClaim := { program := "ytaejmgdpnnhpmaa", sum := "ed05270dffe4f90e9cdf3e289d7d2b170544af452710f42530f165fb318ba2a9", func := "clerestory/clerestorylaw3.PaintFrags", spec := "paintFrags", unfollowed := true, recurses := true, apart := false }
def PaintFragsSaid : Prop := paintFragsRow.holds Try.pinned (OpenSpec.ofChange paintFragsSpec)

/-- ITS FALSE NEIGHBOUR: 'it returns false'. Refute it at one input. -/
def paintFragsWrong : ChangeSpec := { name := "paintFrags", fn := fun _ => fun
  | [d1, d2, d3] => { results := [.lit (.bool false)], args := [d1, d2, d3] }
  | _ => none }
def PaintFragsWrongFalsely : Prop := paintFragsRow.holds Try.pinned (OpenSpec.ofChange paintFragsWrong)

/-- 'clerestorylaw3.FlexMains': WHATEVER THE INPUT: true; the input reads as it did. -/
def flexMainsSpec : ChangeSpec := { name := "flexMains", fn := fun _ => fun
  | [d1, d2, d3] => { results := [.lit (.bool true)], args := [d1, d2, d3] }
  | _ => none }
def flexMainsRow : OpenClaim := { program := "ytaejmgdpnnhpmaa", sum := "ed05270dffe4f90e9cdf3e289d7d2b170544af452710f42530f165fb318ba2a9", func := "clerestory/clerestorylaw3.FlexMains", spec := "flexMains", unfollowed := true, recurses := true, apart := false }
def FlexMainsSaid : Prop := flexMainsRow.holds Try.pinned (OpenSpec.ofChange flexMainsSpec)

/-- ITS FALSE NEIGHBOUR: 'it returns false'. Refute it at one input. -/
def flexMainsWrong : ChangeSpec := { name := "flexMains", fn := fun _ => fun
  | [d1, d2, d3] => { results := [.lit (.bool false)], args := [d1, d2, d3] }
  | _ => none }
def FlexMainsWrongFalsely : Prop := flexMainsRow.holds Try.pinned (OpenSpec.ofChange flexMainsWrong)

/-- 'clerestorylaw3.FlexRows': WHATEVER THE INPUT: true; the input reads as it did. -/
def flexRowsSpec : ChangeSpec := { name := "flexRows", fn := fun _ => fun
  | [d1, d2, d3, d4] => { results := [.lit (.bool true)], args := [d1, d2, d3, d4] }
  | _ => none }
def flexRowsRow : OpenClaim := { program := "ytaejmgdpnnhpmaa", sum := "ed05270dffe4f90e9cdf3e289d7d2b170544af452710f42530f165fb318ba2a9", func := "clerestory/clerestorylaw3.FlexRows", spec := "flexRows", unfollowed := true, recurses := true, apart := false }
def FlexRowsSaid : Prop := flexRowsRow.holds Try.pinned (OpenSpec.ofChange flexRowsSpec)

/-- ITS FALSE NEIGHBOUR: 'it returns false'. Refute it at one input. -/
def flexRowsWrong : ChangeSpec := { name := "flexRows", fn := fun _ => fun
  | [d1, d2, d3, d4] => { results := [.lit (.bool false)], args := [d1, d2, d3, d4] }
  | _ => none }
def FlexRowsWrongFalsely : Prop := flexRowsRow.holds Try.pinned (OpenSpec.ofChange flexRowsWrong)

/-- 'clerestorylaw3.FlexSpread': WHATEVER THE INPUT: true; the input reads as it did. -/
def flexSpreadSpec : ChangeSpec := { name := "flexSpread", fn := fun _ => fun
  | [d1, d2, d3] => { results := [.lit (.bool true)], args := [d1, d2, d3] }
  | _ => none }
def flexSpreadRow : OpenClaim := { program := "ytaejmgdpnnhpmaa", sum := "ed05270dffe4f90e9cdf3e289d7d2b170544af452710f42530f165fb318ba2a9", func := "clerestory/clerestorylaw3.FlexSpread", spec := "flexSpread", unfollowed := true, recurses := true, apart := false }
def FlexSpreadSaid : Prop := flexSpreadRow.holds Try.pinned (OpenSpec.ofChange flexSpreadSpec)

/-- ITS FALSE NEIGHBOUR: 'it returns false'. Refute it at one input. -/
def flexSpreadWrong : ChangeSpec := { name := "flexSpread", fn := fun _ => fun
  | [d1, d2, d3] => { results := [.lit (.bool false)], args := [d1, d2, d3] }
  | _ => none }
def FlexSpreadWrongFalsely : Prop := flexSpreadRow.holds Try.pinned (OpenSpec.ofChange flexSpreadWrong)

/-- 'clerestorylaw3.TableColumns': WHATEVER THE INPUT: true; the input reads as it did. -/
def tableColumnsSpec : ChangeSpec := { name := "tableColumns", fn := fun _ => fun
  | [d] => { results := [.lit (.bool true)], args := [d] }
  | _ => none }
def tableColumnsRow : OpenClaim := { program := "ytaejmgdpnnhpmaa", sum := "ed05270dffe4f90e9cdf3e289d7d2b170544af452710f42530f165fb318ba2a9", func := "clerestory/clerestorylaw3.TableColumns", spec := "tableColumns", unfollowed := true, recurses := true, apart := false }
def TableColumnsSaid : Prop := tableColumnsRow.holds Try.pinned (OpenSpec.ofChange tableColumnsSpec)

/-- ITS FALSE NEIGHBOUR: 'it returns false'. Refute it at one input. -/
def tableColumnsWrong : ChangeSpec := { name := "tableColumns", fn := fun _ => fun
  | [d] => { results := [.lit (.bool false)], args := [d] }
  | _ => none }
def TableColumnsWrongFalsely : Prop := tableColumnsRow.holds Try.pinned (OpenSpec.ofChange tableColumnsWrong)

/-- 'clerestorylaw3.TableWidths': WHATEVER THE INPUT: true; the input reads as it did. -/
def tableWidthsSpec : ChangeSpec := { name := "tableWidths", fn := fun _ => fun
  | [d1, d2, d3, d4, d5] => { results := [.lit (.bool true)], args := [d1, d2, d3, d4, d5] }
  | _ => none }
def tableWidthsRow : OpenClaim := { program := "ytaejmgdpnnhpmaa", sum := "ed05270dffe4f90e9cdf3e289d7d2b170544af452710f42530f165fb318ba2a9", func := "clerestory/clerestorylaw3.TableWidths", spec := "tableWidths", unfollowed := true, recurses := true, apart := false }
def TableWidthsSaid : Prop := tableWidthsRow.holds Try.pinned (OpenSpec.ofChange tableWidthsSpec)

/-- ITS FALSE NEIGHBOUR: 'it returns false'. Refute it at one input. -/
def tableWidthsWrong : ChangeSpec := { name := "tableWidths", fn := fun _ => fun
  | [d1, d2, d3, d4, d5] => { results := [.lit (.bool false)], args := [d1, d2, d3, d4, d5] }
  | _ => none }
def TableWidthsWrongFalsely : Prop := tableWidthsRow.holds Try.pinned (OpenSpec.ofChange tableWidthsWrong)

/-- 'clerestorylaw3.RasterFlat': WHATEVER THE INPUT: true; the input reads as it did. -/
def rasterFlatSpec : ChangeSpec := { name := "rasterFlat", fn := fun _ => fun
  | [d] => { results := [.lit (.bool true)], args := [d] }
  | _ => none }
def rasterFlatRow : OpenClaim := { program := "ytaejmgdpnnhpmaa", sum := "ed05270dffe4f90e9cdf3e289d7d2b170544af452710f42530f165fb318ba2a9", func := "clerestory/clerestorylaw3.RasterFlat", spec := "rasterFlat", inPlace := ["internal/bytealg.IndexByteString", "internal/bytealg.IndexString"], named := ["internal/bytealg.MaxLen"], apart := false }
def RasterFlatSaid : Prop := rasterFlatRow.holds Try.pinned (OpenSpec.ofChange rasterFlatSpec)

/-- ITS FALSE NEIGHBOUR: 'it returns false'. Refute it at one input. -/
def rasterFlatWrong : ChangeSpec := { name := "rasterFlat", fn := fun _ => fun
  | [d] => { results := [.lit (.bool false)], args := [d] }
  | _ => none }
def RasterFlatWrongFalsely : Prop := rasterFlatRow.holds Try.pinned (OpenSpec.ofChange rasterFlatWrong)

/-- 'clerestorylaw3.RasterOver': WHATEVER THE INPUT: true; the input reads as it did. -/
def rasterOverSpec : ChangeSpec := { name := "rasterOver", fn := fun _ => fun
  | [d1, d2, d3] => { results := [.lit (.bool true)], args := [d1, d2, d3] }
  | _ => none }
def rasterOverRow : OpenClaim := { program := "ytaejmgdpnnhpmaa", sum := "ed05270dffe4f90e9cdf3e289d7d2b170544af452710f42530f165fb318ba2a9", func := "clerestory/clerestorylaw3.RasterOver", spec := "rasterOver", inPlace := ["internal/bytealg.IndexByteString", "internal/bytealg.IndexString"], named := ["internal/bytealg.MaxLen"], apart := false }
def RasterOverSaid : Prop := rasterOverRow.holds Try.pinned (OpenSpec.ofChange rasterOverSpec)

/-- ITS FALSE NEIGHBOUR: 'it returns false'. Refute it at one input. -/
def rasterOverWrong : ChangeSpec := { name := "rasterOver", fn := fun _ => fun
  | [d1, d2, d3] => { results := [.lit (.bool false)], args := [d1, d2, d3] }
  | _ => none }
def RasterOverWrongFalsely : Prop := rasterOverRow.holds Try.pinned (OpenSpec.ofChange rasterOverWrong)

/- THE SECOND FORM. 'bulk': how many values and letters a reading holds, each counted each time it is reached (what is shared counts as often as it is met; a slice's spare places count too). A statement '..UptoSaid' is the law's where the arguments, and the package variables that the reading takes, are together of bulk at most 1048576: NARROWER than '..Said'. Prove '..Said' where nothing that the law and all that it calls make is longer than what came in: it says more and counts as full. Else prove '..UptoSaid'. A law counts once. -/
mutual
def uptoBulk {H : Type} : DataW H → Nat
  | .lit (.string bytes) => bytes.length + 1
  | .lit _ => 1
  | .nil => 1
  | .ptr d => uptoBulk d + 1
  | .slice elems spare => uptoBulkAll elems + uptoBulkAll spare + 1
  | .agg parts => uptoBulkAll parts + 1
  | .iface _ d => uptoBulk d + 1
  | .map entries => uptoBulkEntries entries + 1
  | .held _ => 1
def uptoBulkAll {H : Type} : List (DataW H) → Nat
  | [] => 0
  | d :: r => uptoBulk d + uptoBulkAll r
def uptoBulkEntries {H : Type} : List (Lit × DataW H) → Nat
  | [] => 0
  | x :: r => uptoBulkEntry x + uptoBulkEntries r
def uptoBulkEntry {H : Type} : Lit × DataW H → Nat
  | (.string bytes, d) => bytes.length + uptoBulk d + 1
  | (_, d) => uptoBulk d + 1
 end
def uptoSmall : (H : Type) → List (DataW H) → Bool := fun _ ds => decide (uptoBulkAll ds ≤ 1048576)
def OpenSpec.upto (s : _root_.Go.ChangeSpec) : _root_.Go.OpenSpec := { _root_.Go.OpenSpec.ofChange s with cond := some uptoSmall }

/-- 'clerestorylaw3.MarginsFrame', WHERE WHAT IT READS IS OF BULK AT MOST 1048576: true; the input reads as it did. -/
def marginsFrameUptoRow : OpenClaim := { program := "ytaejmgdpnnhpmaa", sum := "ed05270dffe4f90e9cdf3e289d7d2b170544af452710f42530f165fb318ba2a9", func := "clerestory/clerestorylaw3.MarginsFrame", spec := "marginsFrame", unfollowed := true, recurses := true, apart := false, narrowed := true }
def MarginsFrameUptoSaid : Prop := marginsFrameUptoRow.holds Try.pinned (OpenSpec.upto marginsFrameSpec)

/-- 'clerestorylaw3.WidthsWide', WHERE WHAT IT READS IS OF BULK AT MOST 1048576: true; the input reads as it did. -/
def widthsWideUptoRow : OpenClaim := { program := "ytaejmgdpnnhpmaa", sum := "ed05270dffe4f90e9cdf3e289d7d2b170544af452710f42530f165fb318ba2a9", func := "clerestory/clerestorylaw3.WidthsWide", spec := "widthsWide", unfollowed := true, recurses := true, apart := false, narrowed := true }
def WidthsWideUptoSaid : Prop := widthsWideUptoRow.holds Try.pinned (OpenSpec.upto widthsWideSpec)

/-- 'clerestorylaw3.PaintFrags', WHERE WHAT IT READS IS OF BULK AT MOST 1048576: true; the input reads as it did. -/
def paintFragsUptoRow : OpenClaim := { program := "ytaejmgdpnnhpmaa", sum := "ed05270dffe4f90e9cdf3e289d7d2b170544af452710f42530f165fb318ba2a9", func := "clerestory/clerestorylaw3.PaintFrags", spec := "paintFrags", unfollowed := true, recurses := true, apart := false, narrowed := true }
def PaintFragsUptoSaid : Prop := paintFragsUptoRow.holds Try.pinned (OpenSpec.upto paintFragsSpec)

/-- 'clerestorylaw3.FlexMains', WHERE WHAT IT READS IS OF BULK AT MOST 1048576: true; the input reads as it did. -/
def flexMainsUptoRow : OpenClaim := { program := "ytaejmgdpnnhpmaa", sum := "ed05270dffe4f90e9cdf3e289d7d2b170544af452710f42530f165fb318ba2a9", func := "clerestory/clerestorylaw3.FlexMains", spec := "flexMains", unfollowed := true, recurses := true, apart := false, narrowed := true }
def FlexMainsUptoSaid : Prop := flexMainsUptoRow.holds Try.pinned (OpenSpec.upto flexMainsSpec)

/-- 'clerestorylaw3.FlexRows', WHERE WHAT IT READS IS OF BULK AT MOST 1048576: true; the input reads as it did. -/
def flexRowsUptoRow : OpenClaim := { program := "ytaejmgdpnnhpmaa", sum := "ed05270dffe4f90e9cdf3e289d7d2b170544af452710f42530f165fb318ba2a9", func := "clerestory/clerestorylaw3.FlexRows", spec := "flexRows", unfollowed := true, recurses := true, apart := false, narrowed := true }
def FlexRowsUptoSaid : Prop := flexRowsUptoRow.holds Try.pinned (OpenSpec.upto flexRowsSpec)

/-- 'clerestorylaw3.FlexSpread', WHERE WHAT IT READS IS OF BULK AT MOST 1048576: true; the input reads as it did. -/
def flexSpreadUptoRow : OpenClaim := { program := "ytaejmgdpnnhpmaa", sum := "ed05270dffe4f90e9cdf3e289d7d2b170544af452710f42530f165fb318ba2a9", func := "clerestory/clerestorylaw3.FlexSpread", spec := "flexSpread", unfollowed := true, recurses := true, apart := false, narrowed := true }
def FlexSpreadUptoSaid : Prop := flexSpreadUptoRow.holds Try.pinned (OpenSpec.upto flexSpreadSpec)

/-- 'clerestorylaw3.TableColumns', WHERE WHAT IT READS IS OF BULK AT MOST 1048576: true; the input reads as it did. -/
def tableColumnsUptoRow : OpenClaim := { program := "ytaejmgdpnnhpmaa", sum := "ed05270dffe4f90e9cdf3e289d7d2b170544af452710f42530f165fb318ba2a9", func := "clerestory/clerestorylaw3.TableColumns", spec := "tableColumns", unfollowed := true, recurses := true, apart := false, narrowed := true }
def TableColumnsUptoSaid : Prop := tableColumnsUptoRow.holds Try.pinned (OpenSpec.upto tableColumnsSpec)

/-- 'clerestorylaw3.TableWidths', WHERE WHAT IT READS IS OF BULK AT MOST 1048576: true; the input reads as it did. -/
def tableWidthsUptoRow : OpenClaim := { program := "ytaejmgdpnnhpmaa", sum := "ed05270dffe4f90e9cdf3e289d7d2b170544af452710f42530f165fb318ba2a9", func := "clerestory/clerestorylaw3.TableWidths", spec := "tableWidths", unfollowed := true, recurses := true, apart := false, narrowed := true }
def TableWidthsUptoSaid : Prop := tableWidthsUptoRow.holds Try.pinned (OpenSpec.upto tableWidthsSpec)

/-- 'clerestorylaw3.RasterFlat', WHERE WHAT IT READS IS OF BULK AT MOST 1048576: true; the input reads as it did. -/
def rasterFlatUptoRow : OpenClaim := { program := "ytaejmgdpnnhpmaa", sum := "ed05270dffe4f90e9cdf3e289d7d2b170544af452710f42530f165fb318ba2a9", func := "clerestory/clerestorylaw3.RasterFlat", spec := "rasterFlat", inPlace := ["internal/bytealg.IndexByteString", "internal/bytealg.IndexString"], named := ["internal/bytealg.MaxLen"], apart := false, narrowed := true }
def RasterFlatUptoSaid : Prop := rasterFlatUptoRow.holds Try.pinned (OpenSpec.upto rasterFlatSpec)

/-- 'clerestorylaw3.RasterOver', WHERE WHAT IT READS IS OF BULK AT MOST 1048576: true; the input reads as it did. -/
def rasterOverUptoRow : OpenClaim := { program := "ytaejmgdpnnhpmaa", sum := "ed05270dffe4f90e9cdf3e289d7d2b170544af452710f42530f165fb318ba2a9", func := "clerestory/clerestorylaw3.RasterOver", spec := "rasterOver", inPlace := ["internal/bytealg.IndexByteString", "internal/bytealg.IndexString"], named := ["internal/bytealg.MaxLen"], apart := false, narrowed := true }
def RasterOverUptoSaid : Prop := rasterOverUptoRow.holds Try.pinned (OpenSpec.upto rasterOverSpec)

end Rows
end Go.Proofs.Ytaejmgdpnnhpmaa
