/- What a float argument reads as. -/
import Derived.Test.YtlmlhkmkabklmaaOpen
import Derived.Test.YtlmlhkmkabklmaaFlt
namespace Go.Proofs.Ytlmlhkmkabklmaa.Opens
open Go.RowKit Go.WideShapes Go.Proofs.YtlmlhkmkabklmaaW.PrintWords
theorem Opens.float {P : Program} {t : TypeId} {k : FloatKind} (ht : P.underlying t = some (.float k)) (hc : P.cellsOf t = 1) : Opens P t (Kd.flt k) (fun x => (Lit.float k x).wf = true) :=
  ⟨hc, fun {H enc w base spare held fuel cs x} hf => by
    cases fuel with
    | zero => simp [DataW.trod] at hf
    | succ n =>
      simp only [DataW.trod, ht] at hf
      match cs, hf with
      | [.float j b], hf =>
        simp only at hf
        split at hf
        · rename_i hw
          obtain ⟨rfl, hw⟩ := hw
          exact ⟨b, rfl, hw⟩
        · cases hf⟩
end Go.Proofs.Ytlmlhkmkabklmaa.Opens
