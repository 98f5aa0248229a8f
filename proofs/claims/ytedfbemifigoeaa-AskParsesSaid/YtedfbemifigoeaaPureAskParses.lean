/- The pure statement of AskParses: what its inputs' types give; the walk over the calls shows the law. -/
import Derived.Test.YtedfbemifigoeaaPx4
import Derived.Test.YtedfbemifigoeaaLBase
namespace Go.Proofs.Ytedfbemifigoeaa.Pure
open Go.RowKit Go.Proofs.Ytedfbemifigoeaa.P Go.Proofs.YtedfbemifigoeaaW.PrintWords Go.Proofs.YtedfbemifigoeaaW.PrintLast
theorem AskParses : bilgelaw15_AskParses.Pure := by
  intro x0 h0
  unfold bilgelaw15_AskParses.f
  rw [if_pos (fun y hy => by have := L.u8_of (h0.2.2 y hy); unfold L.U8 at this; omega)]
end Go.Proofs.Ytedfbemifigoeaa.Pure
