/- The pure statement of RingLast: of things that happened one behind the other the last ones are listed; the walk over them shows it, for any room and row. -/
import Derived.Test.YtnifmhmjhiofbaaPx3
namespace Go.Proofs.Ytnifmhmjhiofbaa.Pure
open Go.RowKit Go.Proofs.Ytnifmhmjhiofbaa.P Go.Proofs.YtnifmhmjhiofbaaW.PrintWords Go.Proofs.YtnifmhmjhiofbaaW.PrintLast
theorem RingLast : bilgelaw07_RingLast.Pure := by
  intro a b l ha hb hl
  replace hl : l.length * 1 ≤ 140737488351232 := hl.2.1
  have h1 : 0 ≤ a ∧ a ≤ 255 := by simpa [Lit.wf, IntKind.min, IntKind.max, IntKind.signed, IntKind.bits] using ha
  have h2 : 0 ≤ b ∧ b ≤ 255 := by simpa [Lit.wf, IntKind.min, IntKind.max, IntKind.signed, IntKind.bits] using hb
  unfold bilgelaw07_RingLast.f
  rw [if_pos ⟨h1.1, h1.2, h2.1, h2.2, by omega⟩]
end Go.Proofs.Ytnifmhmjhiofbaa.Pure
