/- The pure statement of AskPrints: what its inputs' types give; the walk over the calls shows the law. -/
import Derived.Test.YtedfbemifigoeaaPx4
import Derived.Test.YtedfbemifigoeaaLBase
namespace Go.Proofs.Ytedfbemifigoeaa.Pure
open Go.RowKit Go.Proofs.Ytedfbemifigoeaa.P Go.Proofs.YtedfbemifigoeaaW.PrintWords Go.Proofs.YtedfbemifigoeaaW.PrintLast
theorem AskPrints : bilgelaw15_AskPrints.Pure := by
  intro x0 x1 h0 h1
  unfold bilgelaw15_AskPrints.f
  obtain ⟨_, _, _, _, _, _, _, _, _, ⟨_, _, r0⟩⟩ := h0
  obtain ⟨_, _, _, _, _, _, _, _, _, ⟨_, _, r1⟩⟩ := h1
  have u : ∀ y : Int, (Lit.int .u16 y).wf = true → 0 ≤ y ∧ y ≤ 65535 := fun y hy => by have := L.u16_of hy; unfold L.U16 at this; omega
  rw [if_pos ⟨fun y hy => u y (r0 y hy), fun y hy => u y (r1 y hy)⟩]
end Go.Proofs.Ytedfbemifigoeaa.Pure
