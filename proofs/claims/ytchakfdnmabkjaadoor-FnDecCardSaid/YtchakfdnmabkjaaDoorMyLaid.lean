/- From the rows' condition (what the library's variables hold) to what the walks ask; the builder that hands on the world's shape beside it. -/
import Derived.Test.YtchakfdnmabkjaaDoorRows
import Derived.Test.YtchakfdnmabkjaaDoorMyTabs
import Derived.Stop.LaidErr
import Derived.Handed
import Derived.ShapedOpen
set_option linter.unusedVariables false
namespace Go.Proofs.YtchakfdnmabkjaaDoor.Tabs
open Go.RowKit
theorem gT : Tryd.prog.globalNamed "internal/strconv.uint64pow10" = some 3 := by kernel_rfl
theorem gTType : (Tryd.prog.globals[3]?).map (·.type) = some 110 := by kernel_rfl
theorem gES : Tryd.prog.globalNamed "strconv.ErrSyntax" = some 0 := by kernel_rfl
theorem gESType : (Tryd.prog.globals[0]?).map (·.type) = some 46 := by kernel_rfl
theorem gER : Tryd.prog.globalNamed "strconv.ErrRange" = some 1 := by kernel_rfl
theorem gERType : (Tryd.prog.globals[1]?).map (·.type) = some 46 := by kernel_rfl
theorem cellsE : Tryd.prog.cellsOf 117 = 1 := by kernel_rfl
theorem cellsS : Tryd.prog.cellsOf 9 = 1 := by kernel_rfl
theorem star : "*" ++ "errors.errorString" = "*errors.errorString" := by decide
theorem rowE (u : TypeId) (h : Tryd.prog.typeName? 3 u = some "*errors.errorString") : u = 115 :=
  typeName_ptr_named (nm := "errors.errorString") (by rw [star]; kernel_rfl) (by kernel_rfl) (by decide) u (by rw [star]; exact h)
theorem datum : (Rows.laid_internal_strconv_uint64pow10 : DataW Unit) = Lib.tabData .u64 Lib.pow10Tab := by kernel_rfl
theorem pows_of_laid {a b : String × DataW Unit} {r : List (String × DataW Unit)} {W : World} (h : laidMet Tryd.prog (a :: b :: ("internal/strconv.uint64pow10", Rows.laid_internal_strconv_uint64pow10) :: r) W) : Pows W := by
  have h2 := h.tail.tail
  rw [datum] at h2
  exact Lib.tabIs_of_head gT gTType Tryd.underlying110 Tryd.underlying92 (by kernel_rfl) (by kernel_rfl) h2
theorem errs_of_laid {a b c : String × DataW Unit} {r : List (String × DataW Unit)} {W : World} (h : laidMet Tryd.prog (a :: b :: c :: ("strconv.ErrRange", Rows.laid_strconv_ErrRange) :: ("strconv.ErrSyntax", Rows.laid_strconv_ErrSyntax) :: r) W) : Errs W := by
  obtain ⟨a1, s1, hv1, -, -, -⟩ := laid_sentinel h.tail.tail.tail gER gERType Tryd.underlying46 rowE Tryd.underlying115 Tryd.underlying117 rfl rfl Tryd.underlying9 cellsE cellsS
  obtain ⟨a0, s0, hv0, -, -, -⟩ := laid_sentinel h.tail.tail.tail.tail gES gESType Tryd.underlying46 rowE Tryd.underlying115 Tryd.underlying117 rfl rfl Tryd.underlying9 cellsE cellsS
  exact ⟨⟨_, _, by have h0 := World.var?_cell gES hv0 0; simpa using h0⟩, ⟨_, _, by have h0 := World.var?_cell gER hv1 0; simpa using h0⟩⟩
end Go.Proofs.YtchakfdnmabkjaaDoor.Tabs
