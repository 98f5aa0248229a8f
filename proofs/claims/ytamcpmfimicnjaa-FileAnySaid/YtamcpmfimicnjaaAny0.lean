import Derived.Test.YtamcpmfimicnjaaX
import Derived.Test.YtamcpmfimicnjaaFs
import Derived.Test.YtamcpmfimicnjaaFf
import Derived.Test.YtamcpmfimicnjaaLFile
namespace Go.Proofs.Ytamcpmfimicnjaa.P
open Go.RowKit Go.Proofs.YtamcpmfimicnjaaW.PrintWords Go.Proofs.YtamcpmfimicnjaaW.PrintLast Go.Proofs.YtamcpmfimicnjaaW.PrintMore
attribute [local go_sem] max2_int min2_int max_two min_two max_three min_three max_four min_four   -- for this text's walks alone
set_option linter.unusedVariables false
set_option linter.unusedSimpArgs false
open Go.Proofs.Ytamcpmfimicnjaa.L

def Fi.SA (w : World) (ga gb : Nat) (ca cb : Array Value) (xa xb : S31) (w' : World) : Prop := w'.heap[ga]? = some (.cells ca 31 (0, 0)) ∧ w'.heap[gb]? = some (.cells cb 31 (0, 0)) ∧ Fi.V w' ca xa ∧ Fi.V w' cb xb ∧ Below w.heap.size w w'
theorem Fi.SA.step {w w1 w2 : World} {ga gb : Nat} {ca cb : Array Value} {xa xb : S31} (h : Fi.SA w ga gb ca cb xa xb w1) (hb : Below w1.heap.size w1 w2) : Fi.SA w ga gb ca cb xa xb w2 := by
  obtain ⟨h1, h2, h3, h4, h5⟩ := h
  exact ⟨blk_below h1 hb, blk_below h2 hb, Fi.V_below h3 hb, Fi.V_below h4 hb, below_step h5 hb⟩

end Go.Proofs.Ytamcpmfimicnjaa.P
