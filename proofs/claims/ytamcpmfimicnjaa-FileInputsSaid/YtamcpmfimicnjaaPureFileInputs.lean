/- The pure statement of FileInputs: what its inputs' types give; the walk over the calls shows the law. -/
import Derived.Test.YtamcpmfimicnjaaPx4
import Derived.Test.YtamcpmfimicnjaaLBase
namespace Go.Proofs.Ytamcpmfimicnjaa.Pure
open Go.RowKit Go.Proofs.Ytamcpmfimicnjaa.P Go.Proofs.YtamcpmfimicnjaaW.PrintWords Go.Proofs.YtamcpmfimicnjaaW.PrintLast
theorem FileInputs : bilgelaw14_FileInputs.Pure := by
  intro x0 x1 x2 h0 h1 h2
  have u : ∀ a, (Lit.int .u8 a).wf = true → 0 ≤ a ∧ a ≤ 255 := fun a h => by simpa [Lit.wf, IntKind.min, IntKind.max, IntKind.signed, IntKind.bits] using h
  unfold bilgelaw14_FileInputs.f
  rw [if_pos ⟨u _ h1.1, u _ h1.2, L.i64_of h2.1, L.i64_of h2.2⟩]
end Go.Proofs.Ytamcpmfimicnjaa.Pure
