-- Written by the session's own turn of the kit's print program (wip/patch_print.py). Not trusted: Lean checks it.
import Derived.Test.YtmamkfnnoahcmaaPx0
import Derived.Test.YtmamkfnnoahcmaaOpn
namespace Go.Proofs.Ytmamkfnnoahcmaa.P
open Go.RowKit Go.Proofs.YtmamkfnnoahcmaaW.PrintWords Go.Proofs.YtmamkfnnoahcmaaW.PrintLast Go.Proofs.YtmamkfnnoahcmaaW.PrintMore
attribute [local go_sem] max2_int min2_int max_two min_two max_three min_three max_four min_four   -- for this text's walks alone
set_option linter.unusedVariables false
set_option linter.unusedSimpArgs false

theorem opn3 : Go.Proofs.YtmamkfnnoahcmaaW.Opener.Opn Try.prog 3 (Kd.int .i64) (fun x => (Lit.int .i64 x).wf = true) := Go.Proofs.YtmamkfnnoahcmaaW.Opener.opn_int Try.underlying3 (by kernel_rfl)
theorem opn58 : Go.Proofs.YtmamkfnnoahcmaaW.Opener.Opn Try.prog 58 k58 (fun x => ((Lit.int .i64 x.f0).wf = true ∧ (Lit.int .i64 x.f1).wf = true)) := Go.Proofs.YtmamkfnnoahcmaaW.Opener.opn_struct Try.underlying58 (by kernel_rfl) rfl (Go.Proofs.YtmamkfnnoahcmaaW.Opener.opnFs_cons opn3 (Go.Proofs.YtmamkfnnoahcmaaW.Opener.opnFs_one opn3) (of_decide_eq_true (by kernel_rfl))) (fun a => ⟨(⟨a.1, a.2⟩ : S58), rfl⟩)
theorem opn59 : Go.Proofs.YtmamkfnnoahcmaaW.Opener.Opn Try.prog 59 k59 (fun x => ((Lit.int .i64 x.f0).wf = true ∧ (Lit.int .i64 x.f1).wf = true)) := Go.Proofs.YtmamkfnnoahcmaaW.Opener.opn_array Try.underlying59 (by kernel_rfl) (by kernel_rfl) (Go.Proofs.YtmamkfnnoahcmaaW.Opener.opnFs_cons opn3 (Go.Proofs.YtmamkfnnoahcmaaW.Opener.opnFs_one opn3) (of_decide_eq_true (by kernel_rfl))) (fun a => ⟨(⟨a.1, a.2⟩ : S59), rfl⟩)
theorem opn45 : Go.Proofs.YtmamkfnnoahcmaaW.Opener.Opn Try.prog 45 (Kd.int .u16) (fun x => (Lit.int .u16 x).wf = true) := Go.Proofs.YtmamkfnnoahcmaaW.Opener.opn_int Try.underlying45 (by kernel_rfl)
theorem opn67 : Go.Proofs.YtmamkfnnoahcmaaW.Opener.Opn Try.prog 67 k67 (fun x => ((Lit.int .u16 x.f0).wf = true ∧ (Lit.int .u16 x.f1).wf = true)) := Go.Proofs.YtmamkfnnoahcmaaW.Opener.opn_array Try.underlying67 (by kernel_rfl) (by kernel_rfl) (Go.Proofs.YtmamkfnnoahcmaaW.Opener.opnFs_cons opn45 (Go.Proofs.YtmamkfnnoahcmaaW.Opener.opnFs_one opn45) (of_decide_eq_true (by kernel_rfl))) (fun a => ⟨(⟨a.1, a.2⟩ : S67), rfl⟩)
end Go.Proofs.Ytmamkfnnoahcmaa.P
