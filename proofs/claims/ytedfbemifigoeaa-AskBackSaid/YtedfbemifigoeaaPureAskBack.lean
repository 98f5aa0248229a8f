/- The pure statement of AskBack: what its inputs' types give; the walk over the calls shows the law. -/
import Derived.Test.YtedfbemifigoeaaPx4
import Derived.Test.YtedfbemifigoeaaLBase
namespace Go.Proofs.Ytedfbemifigoeaa.Pure
open Go.RowKit Go.Proofs.Ytedfbemifigoeaa.P Go.Proofs.YtedfbemifigoeaaW.PrintWords Go.Proofs.YtedfbemifigoeaaW.PrintLast
theorem AskBack : bilgelaw15_AskBack.Pure := by
  intro x0 x1 h0 h1
  unfold bilgelaw15_AskBack.f
  obtain ⟨_, _, _, _, _, _, _, _, _, ⟨_, _, r0⟩⟩ := h0
  have u : ∀ y : Int, (Lit.int .u16 y).wf = true → 0 ≤ y ∧ y ≤ 65535 := fun y hy => by have := L.u16_of hy; unfold L.U16 at this; omega
  rw [if_pos ⟨fun y hy => u y (r0 y hy), fun y hy => by have := L.u8_of (h1.2.2 y hy); unfold L.U8 at this; omega⟩]
end Go.Proofs.Ytedfbemifigoeaa.Pure
