/- What the reference's windows come to, and package window's Meets. -/
import Derived.Test.YtnaedmakkefdfaaLWindow
import Derived.Test.YtnaedmakkefdfaaPx5
import Derived.Test.YtnaedmakkefdfaaPx6
import Derived.Test.YtnaedmakkefdfaaPx0
namespace Go.Proofs.Ytnaedmakkefdfaa.L
open Go.RowKit Go.Proofs.Ytnaedmakkefdfaa.P Go.Proofs.YtnaedmakkefdfaaW.PrintWords Go.Proofs.YtnaedmakkefdfaaW.PrintLast
set_option linter.unusedVariables false
set_option linter.unusedSimpArgs false

theorem rright_eq (a b : Int) : bilgeref12_Right.f a b = some (decide (RightP a b)) := by
  unfold bilgeref12_Right.f
  by_cases h1 : a ≥ 0
  · by_cases h2 : a ≤ 65535
    · by_cases h3 : b ≥ 0
      · by_cases h4 : b ≤ 65536
        · rw [if_pos h1, if_pos h2, if_pos h3, if_pos h4, w64 (by omega)]
          congr 1
          simp only [decide_eq_decide]
          unfold RightP
          omega
        · rw [if_pos h1, if_pos h2, if_pos h3, if_neg h4]
          rw [decide_eq_false (fun h => h4 h.2.2.2.1)]
      · rw [if_pos h1, if_pos h2, if_neg h3]
        rw [decide_eq_false (fun h => h3 h.2.2.1)]
    · rw [if_pos h1, if_neg h2]
      rw [decide_eq_false (fun h => h2 h.2.1)]
  · rw [if_neg h1]
    rw [decide_eq_false (fun h => h1 h.1)]

theorem rhas_eq (a b x : Int) : bilgeref12_Has.f a b x = some (decide (HasP a b x)) := by
  unfold bilgeref12_Has.f
  rw [rright_eq, Option.bind_some]
  by_cases h : RightP a b
  · have h' := h
    unfold RightP at h'
    simp only [h, decide_true, if_true]
    by_cases hx2 : x ≥ a
    · rw [if_pos hx2, w64 (by omega)]
      congr 1
      simp only [decide_eq_decide]
      unfold HasP
      exact ⟨fun hh => ⟨h, hx2, hh⟩, fun hh => hh.2.2⟩
    · rw [if_neg hx2, decide_eq_false (fun hh => hx2 hh.2.1)]
  · simp only [h, decide_false, Bool.false_eq_true, if_false]
    rw [decide_eq_false (fun hh => h hh.1)]

/-- So many places from one on that there may be. -/
def ofS (x n : Int) : Int × Int := if n < 1 ∨ x ≥ 65536 ∨ min (x + n) 65536 ≤ max x 0 then (0, 0) else (max x 0, min (x + n) 65536 - max x 0)
def MeetsP (a b x n : Int) : Prop := RightP a b ∧ 1 ≤ n ∧ 0 < b ∧ a < x + n ∧ x < a + b
instance (a b x n : Int) : Decidable (MeetsP a b x n) := by unfold MeetsP; infer_instance
def acc (a c d p : Int) : Int × Int := if max a c < min p (c + d) then (max a c, min p (c + d) - max a c) else (0, 0)
end Go.Proofs.Ytnaedmakkefdfaa.L
