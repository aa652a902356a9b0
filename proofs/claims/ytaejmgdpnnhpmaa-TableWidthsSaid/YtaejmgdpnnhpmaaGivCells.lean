/- table.cells of one row of two cells of span 1. -/
import Derived.Test.YtaejmgdpnnhpmaaQTableWidthsCells
namespace Go.Proofs.Ytaejmgdpnnhpmaa.QTableWidths
open Go.RowKit Go.Proofs.YtaejmgdpnnhpmaaW.PrintWords Go.Proofs.YtaejmgdpnnhpmaaW.PrintLast Go.Proofs.YtaejmgdpnnhpmaaW.PrintMore
theorem cells_two : table_cells.f 6 [[⟨5, 9, 1⟩, ⟨2, 3, 1⟩]] = some ([⟨5, 9, 0, 1⟩, ⟨2, 3, 1, 1⟩], 2) := by
  kernel_rfl
theorem cells_closed (A : Option Addr) (c : Nat) (w : World) (hr : Kd.C (Kd.slice 123 k123) w A 1 [[⟨5, 9, 1⟩, ⟨2, 3, 1⟩]]) (hc : 1 ≤ c) :
    Calls Try.prog 82 #[.slice A 1 c] w fun e w' => ∃ v0_ : Value, e = .returned (.tuple #[v0_, .int .i64 2]) ∧ Kd.R k116 116 w' w.heap.size (fun _ => True) v0_ [⟨5, 9, 0, 1⟩, ⟨2, 3, 1, 1⟩] ∧ Below w.heap.size w w' :=
  table_cells.calls 6 A c [[⟨5, 9, 1⟩, ⟨2, 3, 1⟩]] [⟨5, 9, 0, 1⟩, ⟨2, 3, 1, 1⟩] 2 w hr hc cells_two
end Go.Proofs.Ytaejmgdpnnhpmaa.QTableWidths
