-- Written by the session's own turn of the kit's print program (wip/patch_print.py). Not trusted: Lean checks it.
import Derived.Test.YtnifmhmjhiofbaaPx0
import Derived.Test.YtnifmhmjhiofbaaOpn
namespace Go.Proofs.Ytnifmhmjhiofbaa.P
open Go.RowKit Go.Proofs.YtnifmhmjhiofbaaW.PrintWords Go.Proofs.YtnifmhmjhiofbaaW.PrintLast Go.Proofs.YtnifmhmjhiofbaaW.PrintMore
attribute [local go_sem] max2_int min2_int max_two min_two max_three min_three max_four min_four   -- for this text's walks alone
set_option linter.unusedVariables false
set_option linter.unusedSimpArgs false

theorem opn5 : Go.Proofs.YtnifmhmjhiofbaaW.Opener.Opn Try.prog 5 (Kd.int .u8) (fun x => (Lit.int .u8 x).wf = true) := Go.Proofs.YtnifmhmjhiofbaaW.Opener.opn_int Try.underlying5 (by kernel_rfl)
theorem opn22 : Go.Proofs.YtnifmhmjhiofbaaW.Opener.Opn Try.prog 22 (Kd.slice 5 (Kd.int .u8)) (fun x => (x.length ≤ maxLen ∧ x.length * 1 ≤ 140737488351232 ∧ ∀ y0 ∈ x, (Lit.int .u8 y0).wf = true)) := Go.Proofs.YtnifmhmjhiofbaaW.Opener.opn_slice Try.underlying22 (by kernel_rfl) (B := 1) (by kernel_rfl) opn5
theorem opn3 : Go.Proofs.YtnifmhmjhiofbaaW.Opener.Opn Try.prog 3 (Kd.int .i64) (fun x => (Lit.int .i64 x).wf = true) := Go.Proofs.YtnifmhmjhiofbaaW.Opener.opn_int Try.underlying3 (by kernel_rfl)
theorem opn31 : Go.Proofs.YtnifmhmjhiofbaaW.Opener.Opn Try.prog 31 k31 (fun x => ((Lit.int .i64 x.f0).wf = true ∧ (Lit.int .u8 x.f1).wf = true)) := Go.Proofs.YtnifmhmjhiofbaaW.Opener.opn_struct Try.underlying31 (by kernel_rfl) rfl (Go.Proofs.YtnifmhmjhiofbaaW.Opener.opnFs_cons opn3 (Go.Proofs.YtnifmhmjhiofbaaW.Opener.opnFs_one opn5) (of_decide_eq_true (by kernel_rfl))) (fun a => ⟨(⟨a.1, a.2⟩ : S31), rfl⟩)
theorem opn29 : Go.Proofs.YtnifmhmjhiofbaaW.Opener.Opn Try.prog 29 (Kd.slice 31 k31) (fun x => (x.length ≤ maxLen ∧ x.length * 16 ≤ 140737488351232 ∧ ∀ y0 ∈ x, ((Lit.int .i64 y0.f0).wf = true ∧ (Lit.int .u8 y0.f1).wf = true))) := Go.Proofs.YtnifmhmjhiofbaaW.Opener.opn_slice Try.underlying29 (by kernel_rfl) (B := 16) (by kernel_rfl) opn31
end Go.Proofs.Ytnifmhmjhiofbaa.P
