/- Small words for the functions whose contracts are proved by hand. By the session's agent. -/
import Derived.Test.YtmamkfnnoahcmaaWWords
import Derived.WalkKit
import Derived.Deep.DeepFit
namespace Go.Proofs.YtmamkfnnoahcmaaW.X
open Go.RowKit Go.Proofs.YtmamkfnnoahcmaaW.PrintWords
/-- Behind a call that makes memory: all old cells and marks read as before. -/
theorem bcell {W w1 : World} (hb : Below W.heap.size W w1) : (∀ b o, b < W.heap.size → w1.cell? ⟨b, o, none⟩ = W.cell? ⟨b, o, none⟩) ∧ (∀ b o, b < W.heap.size → w1.frozen? ⟨b, o, none⟩ = W.frozen? ⟨b, o, none⟩) :=
  ⟨fun b o h => hb.cell (p := ⟨b, o, none⟩) h, fun b o h => hb.frozen (p := ⟨b, o, none⟩) h⟩
end Go.Proofs.YtmamkfnnoahcmaaW.X
