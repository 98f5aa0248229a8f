/- The pure statement of FileAny: what its inputs' types give; the walk over the calls shows the law. -/
import Derived.Test.YtamcpmfimicnjaaPx4
import Derived.Test.YtamcpmfimicnjaaLBase
namespace Go.Proofs.Ytamcpmfimicnjaa.Pure
open Go.RowKit Go.Proofs.Ytamcpmfimicnjaa.P Go.Proofs.YtamcpmfimicnjaaW.PrintWords Go.Proofs.YtamcpmfimicnjaaW.PrintLast
theorem FileAny : bilgelaw14_FileAny.Pure := by
  intro x0 x1 x2 h0 h1 h2
  obtain ⟨_, ⟨_, p1, _⟩, ⟨_, p2, _⟩, ⟨_, p3, _⟩, ⟨_, p4, _⟩⟩ := h0
  obtain ⟨_, ⟨_, q1, _⟩, ⟨_, q2, _⟩, ⟨_, q3, _⟩, ⟨_, q4, _⟩⟩ := h1
  obtain ⟨_, r1, r2, r3, ⟨_, r4, _⟩, ⟨_, r5, _⟩⟩ := h2
  unfold bilgelaw14_FileAny.f
  rw [if_pos ⟨⟨by omega, by omega, by omega, by omega⟩, ⟨by omega, by omega, by omega, by omega⟩, L.i64_of r1, L.i64_of r2, L.i64_of r3, by omega, by omega⟩]
end Go.Proofs.Ytamcpmfimicnjaa.Pure
