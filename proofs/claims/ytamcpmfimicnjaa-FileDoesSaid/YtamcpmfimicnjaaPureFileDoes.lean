/- The pure statement of FileDoes: what its inputs' types give; the walk over the calls shows the law. -/
import Derived.Test.YtamcpmfimicnjaaPx3
import Derived.Test.YtamcpmfimicnjaaLBase
namespace Go.Proofs.Ytamcpmfimicnjaa.Pure
open Go.RowKit Go.Proofs.Ytamcpmfimicnjaa.P Go.Proofs.YtamcpmfimicnjaaW.PrintWords Go.Proofs.YtamcpmfimicnjaaW.PrintLast
theorem FileDoes : bilgelaw14_FileDoes.Pure := by
  intro x0 l1 h0 h1
  unfold bilgelaw14_FileDoes.f
  rw [if_pos]
  intro o ho
  obtain ⟨r0, r1, r2, r3, ⟨_, r4, _⟩, ⟨_, r5, _⟩⟩ := h1.2.2 o ho
  exact ⟨L.i64_of r0, L.i64_of r1, L.i64_of r2, L.i64_of r3, by omega, by omega⟩
end Go.Proofs.Ytamcpmfimicnjaa.Pure
