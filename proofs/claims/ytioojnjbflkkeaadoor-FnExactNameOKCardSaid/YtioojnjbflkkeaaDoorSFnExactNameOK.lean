/- The plain statement behind the law FnExactNameOK: over numbers and lists alone. -/
import Derived.Test.YtioojnjbflkkeaaDoorPFnExactNameOKx3
namespace Go.Proofs.YtioojnjbflkkeaaDoor.PFnExactNameOK
open Go.RowKit Go.Proofs.YtioojnjbflkkeaaDoorW.PrintWords Go.Proofs.YtioojnjbflkkeaaDoorW.PrintLast
def laws_FnExactNameOK.Plain : Prop := ∀ (a0 : ByteArray), (a0.size ≤ maxLen) → ∃ k, laws_FnExactNameOK.f k a0 = some true
end Go.Proofs.YtioojnjbflkkeaaDoor.PFnExactNameOK
