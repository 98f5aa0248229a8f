/- The pure statement of EventLong: what is said of all tells how long it is, the count, how many messages came, and the events; each thing that happened is the first event then; the walk over the calls shows it. -/
import Derived.Test.YtnaedmakkefdfaaPx5
namespace Go.Proofs.Ytnaedmakkefdfaa.Pure
open Go.RowKit Go.Proofs.Ytnaedmakkefdfaa.P Go.Proofs.YtnaedmakkefdfaaW.PrintWords Go.Proofs.YtnaedmakkefdfaaW.PrintLast
theorem EventLong : bilgelaw19_EventLong.Pure := by
  intro l m hl hm
  have h : l.length ≤ 140737488351232 := by
    have := hl.2.1
    omega
  have h2 : 0 ≤ m ∧ m ≤ 65535 := by simpa [Lit.wf, IntKind.min, IntKind.max, IntKind.signed, IntKind.bits] using hm
  unfold bilgelaw19_EventLong.f
  rw [if_pos ⟨by omega, h2.1, h2.2⟩]
end Go.Proofs.Ytnaedmakkefdfaa.Pure
