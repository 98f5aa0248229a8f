-- Written by the session's own turn of the kit's print program (wip/patch_print.py). Not trusted: Lean checks it.
import Derived.Test.YtnaedmakkefdfaaPx0
import Derived.Test.YtnaedmakkefdfaaOpn
namespace Go.Proofs.Ytnaedmakkefdfaa.P
open Go.RowKit Go.Proofs.YtnaedmakkefdfaaW.PrintWords Go.Proofs.YtnaedmakkefdfaaW.PrintLast Go.Proofs.YtnaedmakkefdfaaW.PrintMore
attribute [local go_sem] max2_int min2_int max_two min_two max_three min_three max_four min_four   -- for this text's walks alone
set_option linter.unusedVariables false
set_option linter.unusedSimpArgs false

theorem opn4 : Go.Proofs.YtnaedmakkefdfaaW.Opener.Opn Try.prog 4 Kd.bool (fun x => True) := Go.Proofs.YtnaedmakkefdfaaW.Opener.opn_bool Try.underlying4 (by kernel_rfl)
theorem opn22 : Go.Proofs.YtnaedmakkefdfaaW.Opener.Opn Try.prog 22 (Kd.slice 4 Kd.bool) (fun x => (x.length ≤ maxLen ∧ x.length * 1 ≤ 140737488351232 ∧ ∀ y0 ∈ x, True)) := Go.Proofs.YtnaedmakkefdfaaW.Opener.opn_slice Try.underlying22 (by kernel_rfl) (B := 1) (by kernel_rfl) opn4
theorem opn5 : Go.Proofs.YtnaedmakkefdfaaW.Opener.Opn Try.prog 5 (Kd.int .u8) (fun x => (Lit.int .u8 x).wf = true) := Go.Proofs.YtnaedmakkefdfaaW.Opener.opn_int Try.underlying5 (by kernel_rfl)
theorem opn23 : Go.Proofs.YtnaedmakkefdfaaW.Opener.Opn Try.prog 23 (Kd.slice 5 (Kd.int .u8)) (fun x => (x.length ≤ maxLen ∧ x.length * 1 ≤ 140737488351232 ∧ ∀ y0 ∈ x, (Lit.int .u8 y0).wf = true)) := Go.Proofs.YtnaedmakkefdfaaW.Opener.opn_slice Try.underlying23 (by kernel_rfl) (B := 1) (by kernel_rfl) opn5
theorem opn3 : Go.Proofs.YtnaedmakkefdfaaW.Opener.Opn Try.prog 3 (Kd.int .i64) (fun x => (Lit.int .i64 x).wf = true) := Go.Proofs.YtnaedmakkefdfaaW.Opener.opn_int Try.underlying3 (by kernel_rfl)
end Go.Proofs.Ytnaedmakkefdfaa.P
