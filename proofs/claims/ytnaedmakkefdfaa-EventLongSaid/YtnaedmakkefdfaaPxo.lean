-- Written by the session's own turn of the kit's print program (wip/patch_print.py). Not trusted: Lean checks it.
import Derived.Test.YtnaedmakkefdfaaPx0
import Derived.Test.YtnaedmakkefdfaaOpn
namespace Go.Proofs.Ytnaedmakkefdfaa.P
open Go.RowKit Go.Proofs.YtnaedmakkefdfaaW.PrintWords Go.Proofs.YtnaedmakkefdfaaW.PrintLast Go.Proofs.YtnaedmakkefdfaaW.PrintMore
attribute [local go_sem] max2_int min2_int max_two min_two max_three min_three max_four min_four   -- for this text's walks alone
set_option linter.unusedVariables false
set_option linter.unusedSimpArgs false

theorem opn3 : Go.Proofs.YtnaedmakkefdfaaW.Opener.Opn Try.prog 3 (Kd.int .i64) (fun x => (Lit.int .i64 x).wf = true) := Go.Proofs.YtnaedmakkefdfaaW.Opener.opn_int Try.underlying3 (by kernel_rfl)
theorem opn4 : Go.Proofs.YtnaedmakkefdfaaW.Opener.Opn Try.prog 4 Kd.bool (fun x => True) := Go.Proofs.YtnaedmakkefdfaaW.Opener.opn_bool Try.underlying4 (by kernel_rfl)
theorem opn79 : Go.Proofs.YtnaedmakkefdfaaW.Opener.Opn Try.prog 79 k79 (fun x => (True ∧ True ∧ True ∧ True)) := Go.Proofs.YtnaedmakkefdfaaW.Opener.opn_array Try.underlying79 (by kernel_rfl) (by kernel_rfl) (Go.Proofs.YtnaedmakkefdfaaW.Opener.opnFs_cons opn4 (Go.Proofs.YtnaedmakkefdfaaW.Opener.opnFs_cons opn4 (Go.Proofs.YtnaedmakkefdfaaW.Opener.opnFs_cons opn4 (Go.Proofs.YtnaedmakkefdfaaW.Opener.opnFs_one opn4) (of_decide_eq_true (by kernel_rfl))) (of_decide_eq_true (by kernel_rfl))) (of_decide_eq_true (by kernel_rfl))) (fun a => ⟨(⟨a.1, a.2.1, a.2.2.1, a.2.2.2⟩ : S79), rfl⟩)
theorem opn81 : Go.Proofs.YtnaedmakkefdfaaW.Opener.Opn Try.prog 81 k81 (fun x => ((Lit.int .i64 x.f0).wf = true ∧ (Lit.int .i64 x.f1).wf = true ∧ (True ∧ True ∧ True ∧ True))) := Go.Proofs.YtnaedmakkefdfaaW.Opener.opn_struct Try.underlying81 (by kernel_rfl) rfl (Go.Proofs.YtnaedmakkefdfaaW.Opener.opnFs_cons opn3 (Go.Proofs.YtnaedmakkefdfaaW.Opener.opnFs_cons opn3 (Go.Proofs.YtnaedmakkefdfaaW.Opener.opnFs_one opn79) (of_decide_eq_true (by kernel_rfl))) (of_decide_eq_true (by kernel_rfl))) (fun a => ⟨(⟨a.1, a.2.1, a.2.2⟩ : S81), rfl⟩)
theorem opn75 : Go.Proofs.YtnaedmakkefdfaaW.Opener.Opn Try.prog 75 (Kd.slice 81 k81) (fun x => (x.length ≤ maxLen ∧ x.length * 24 ≤ 140737488351232 ∧ ∀ y0 ∈ x, ((Lit.int .i64 y0.f0).wf = true ∧ (Lit.int .i64 y0.f1).wf = true ∧ (True ∧ True ∧ True ∧ True)))) := Go.Proofs.YtnaedmakkefdfaaW.Opener.opn_slice Try.underlying75 (by kernel_rfl) (B := 24) (by kernel_rfl) opn81
theorem opn55 : Go.Proofs.YtnaedmakkefdfaaW.Opener.Opn Try.prog 55 (Kd.int .u16) (fun x => (Lit.int .u16 x).wf = true) := Go.Proofs.YtnaedmakkefdfaaW.Opener.opn_int Try.underlying55 (by kernel_rfl)
end Go.Proofs.Ytnaedmakkefdfaa.P
