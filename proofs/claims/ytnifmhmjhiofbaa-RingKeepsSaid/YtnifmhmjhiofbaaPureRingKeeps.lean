/- The pure statement of RingKeeps: whatever happens, and is forgotten, is listed as it should; the walk over the calls shows it, for any room and row of calls. -/
import Derived.Test.YtnifmhmjhiofbaaPx3
namespace Go.Proofs.Ytnifmhmjhiofbaa.Pure
open Go.RowKit Go.Proofs.Ytnifmhmjhiofbaa.P Go.Proofs.YtnifmhmjhiofbaaW.PrintWords Go.Proofs.YtnifmhmjhiofbaaW.PrintLast
theorem RingKeeps : bilgelaw07_RingKeeps.Pure := by
  intro a l _ hl
  have h : l.length ≤ 140737488351232 := by
    have := hl.2.1
    omega
  unfold bilgelaw07_RingKeeps.f
  rw [if_pos (by omega)]
end Go.Proofs.Ytnifmhmjhiofbaa.Pure
