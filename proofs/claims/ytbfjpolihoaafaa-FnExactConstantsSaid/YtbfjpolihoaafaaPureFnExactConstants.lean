/- FnExactConstants over numbers alone: every constant is the document's. -/
import Derived.Test.YtbfjpolihoaafaaPFnExactConstantsx1
namespace Go.Proofs.Ytbfjpolihoaafaa.Pure
open Go.RowKit Go.Proofs.Ytbfjpolihoaafaa.PFnExactConstants Go.Proofs.YtbfjpolihoaafaaW.PrintWords Go.Proofs.YtbfjpolihoaafaaW.PrintLast
theorem FnExactConstants : laws_FnExactConstants.Pure := by
  unfold laws_FnExactConstants.Pure
  simp [laws_FnExactConstants.f]
end Go.Proofs.Ytbfjpolihoaafaa.Pure
