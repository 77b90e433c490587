/- The plain statement behind the law FnExactFracText: over numbers and lists alone. -/
import Derived.Test.YthofhmhcackepaaDoorPFnExactFracTextx2
namespace Go.Proofs.YthofhmhcackepaaDoor.PFnExactFracText
open Go.RowKit Go.Proofs.YthofhmhcackepaaDoorW.PrintWords Go.Proofs.YthofhmhcackepaaDoorW.PrintLast
def laws_FnExactFracText.Plain : Prop := ∀ (a0_0 : Int) (a0_1 : Int), ((Lit.int .i64 a0_0).wf = true) → ((Lit.int .i64 a0_1).wf = true) → ∃ k, laws_FnExactFracText.f k a0_0 a0_1 = some true
end Go.Proofs.YthofhmhcackepaaDoor.PFnExactFracText
