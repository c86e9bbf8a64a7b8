/- What the library's variables hold (the row's condition), and that it stays so while the old blocks stand. -/
import Derived.Test.YtchakfdnmabkjaaDoorMyShelf
import Derived.Lib.LaidTab
import Derived.Lib.AppendIntMem
set_option linter.unusedVariables false
namespace Go.Proofs.YtchakfdnmabkjaaDoor.Tabs
open Go.RowKit
/-- The table of powers of ten. -/
def Pows (w : World) : Prop := Lib.TabIs Tryd.prog w "internal/strconv.uint64pow10" .u64 Lib.pow10Tab
/-- The two errors of the library's. -/
def Errs (w : World) : Prop := (∃ tp p, w.cell? ⟨0, 0, none⟩ = some (.iface tp p)) ∧ (∃ tp p, w.cell? ⟨1, 0, none⟩ = some (.iface tp p))
theorem Pows.on {w w' : World} (h : Pows w) (hb : Below w.heap.size w w') : Pows w' := Lib.tabBelow_of_tabIs h w' hb
theorem Errs.on {w w' : World} (h : Errs w) (hb : Below w.heap.size w w') : Errs w' := by
  obtain ⟨⟨t0, p0, h0⟩, ⟨t1, p1, h1⟩⟩ := h
  exact ⟨⟨t0, p0, (hb.cell (World.block_lt_of_cell? w _ h0)).trans h0⟩, ⟨t1, p1, (hb.cell (World.block_lt_of_cell? w _ h1)).trans h1⟩⟩
end Go.Proofs.YtchakfdnmabkjaaDoor.Tabs
