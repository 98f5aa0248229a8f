-- Written by the session's own turn of the kit's print program (wip/patch_print.py). Not trusted: Lean checks it.
import Derived.Test.YtnaedmakkefdfaaPx0
import Derived.Test.YtnaedmakkefdfaaOpn
namespace Go.Proofs.Ytnaedmakkefdfaa.P
open Go.RowKit Go.Proofs.YtnaedmakkefdfaaW.PrintWords Go.Proofs.YtnaedmakkefdfaaW.PrintLast Go.Proofs.YtnaedmakkefdfaaW.PrintMore
attribute [local go_sem] max2_int min2_int max_two min_two max_three min_three max_four min_four   -- for this text's walks alone
set_option linter.unusedVariables false
set_option linter.unusedSimpArgs false

theorem opn2 : Go.Proofs.YtnaedmakkefdfaaW.Opener.Opn Try.prog 2 (Kd.int .i64) (fun x => (Lit.int .i64 x).wf = true) := Go.Proofs.YtnaedmakkefdfaaW.Opener.opn_int Try.underlying2 (by kernel_rfl)
theorem opn55 : Go.Proofs.YtnaedmakkefdfaaW.Opener.Opn Try.prog 55 (Kd.int .u16) (fun x => (Lit.int .u16 x).wf = true) := Go.Proofs.YtnaedmakkefdfaaW.Opener.opn_int Try.underlying55 (by kernel_rfl)
theorem opn39 : Go.Proofs.YtnaedmakkefdfaaW.Opener.Opn Try.prog 39 (Kd.slice 55 (Kd.int .u16)) (fun x => (x.length ≤ maxLen ∧ x.length * 2 ≤ 140737488351232 ∧ ∀ y0 ∈ x, (Lit.int .u16 y0).wf = true)) := Go.Proofs.YtnaedmakkefdfaaW.Opener.opn_slice Try.underlying39 (by kernel_rfl) (B := 2) (by kernel_rfl) opn55
theorem opn3 : Go.Proofs.YtnaedmakkefdfaaW.Opener.Opn Try.prog 3 (Kd.int .i64) (fun x => (Lit.int .i64 x).wf = true) := Go.Proofs.YtnaedmakkefdfaaW.Opener.opn_int Try.underlying3 (by kernel_rfl)
theorem opn40 : Go.Proofs.YtnaedmakkefdfaaW.Opener.Opn Try.prog 40 k40 (fun x => ((Lit.int .i64 x.f0).wf = true ∧ (Lit.int .i64 x.f1).wf = true)) := Go.Proofs.YtnaedmakkefdfaaW.Opener.opn_array Try.underlying40 (by kernel_rfl) (by kernel_rfl) (Go.Proofs.YtnaedmakkefdfaaW.Opener.opnFs_cons opn3 (Go.Proofs.YtnaedmakkefdfaaW.Opener.opnFs_one opn3) (of_decide_eq_true (by kernel_rfl))) (fun a => ⟨(⟨a.1, a.2⟩ : S40), rfl⟩)
theorem opn5 : Go.Proofs.YtnaedmakkefdfaaW.Opener.Opn Try.prog 5 (Kd.int .u8) (fun x => (Lit.int .u8 x).wf = true) := Go.Proofs.YtnaedmakkefdfaaW.Opener.opn_int Try.underlying5 (by kernel_rfl)
theorem opn54 : Go.Proofs.YtnaedmakkefdfaaW.Opener.Opn Try.prog 54 k54 (fun x => ((Lit.int .u8 x.f0).wf = true ∧ (Lit.int .u8 x.f1).wf = true)) := Go.Proofs.YtnaedmakkefdfaaW.Opener.opn_array Try.underlying54 (by kernel_rfl) (by kernel_rfl) (Go.Proofs.YtnaedmakkefdfaaW.Opener.opnFs_cons opn5 (Go.Proofs.YtnaedmakkefdfaaW.Opener.opnFs_one opn5) (of_decide_eq_true (by kernel_rfl))) (fun a => ⟨(⟨a.1, a.2⟩ : S54), rfl⟩)
end Go.Proofs.Ytnaedmakkefdfaa.P
