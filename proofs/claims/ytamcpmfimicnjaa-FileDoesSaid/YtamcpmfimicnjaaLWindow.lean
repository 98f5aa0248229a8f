/- What the functions of package window, and those of its reference, come to: windows of places. -/
import Derived.Test.YtamcpmfimicnjaaLBase
import Derived.Test.YtamcpmfimicnjaaPx2
import Derived.Test.YtamcpmfimicnjaaPx4
import Derived.Test.YtamcpmfimicnjaaPx7
import Derived.Test.YtamcpmfimicnjaaPx0
namespace Go.Proofs.Ytamcpmfimicnjaa.L
open Go.RowKit Go.Proofs.Ytamcpmfimicnjaa.P Go.Proofs.YtamcpmfimicnjaaW.PrintWords Go.Proofs.YtamcpmfimicnjaaW.PrintLast
set_option linter.unusedVariables false
set_option linter.unusedSimpArgs false

def RightP (a b : Int) : Prop := 0 ≤ a ∧ a ≤ 65535 ∧ 0 ≤ b ∧ b ≤ 65536 ∧ a + b ≤ 65536
instance (a b : Int) : Decidable (RightP a b) := by unfold RightP; infer_instance
theorem right_eq (a b : Int) : window_Right.f a b = some (decide (RightP a b)) := by
  unfold window_Right.f
  rw [Option.some.injEq, Bool.eq_iff_iff]
  simp only [Bool.and_eq_true, decide_eq_true_eq]
  unfold RightP
  omega

def HasP (a b x : Int) : Prop := RightP a b ∧ a ≤ x ∧ x < a + b
instance (a b x : Int) : Decidable (HasP a b x) := by unfold HasP; infer_instance
/-- What two windows share. -/
def cutS (a b c d : Int) : Int × Int := if RightP a b ∧ RightP c d ∧ max a c < min (a + b) (c + d) then (max a c, min (a + b) (c + d) - max a c) else (0, 0)

theorem cut_eq (k : Nat) (a b c d : Int) : window_Cut.f (k + 1) a b c d = some (cutS a b c d) := by
  unfold window_Cut.f
  rw [right_eq, Option.bind_some]
  by_cases h : RightP a b
  · simp only [h, decide_true, if_true]
    rw [right_eq, Option.bind_some]
    by_cases h2 : RightP c d
    · have h' := h
      have h2' := h2
      unfold RightP at h' h2'
      simp only [h2, decide_true, Bool.not_true, window_Cut.j0, Bool.false_eq_true, if_false]
      rw [w64 (x := a + b) (by omega), w64 (x := c + d) (by omega)]
      have e1 : mx a c = max a c := by unfold mx; omega
      have e2 : mn (a + b) (c + d) = min (a + b) (c + d) := by unfold mn; omega
      rw [e1, e2]
      by_cases h3 : max a c < min (a + b) (c + d)
      · rw [if_neg (by omega), w64 (by omega)]
        unfold cutS
        rw [if_pos ⟨h, h2, h3⟩]
      · rw [if_pos (by omega)]
        unfold cutS
        rw [if_neg (fun hh => h3 hh.2.2)]
    · simp only [h2, decide_false, Bool.not_false, window_Cut.j0, if_true]
      unfold cutS
      rw [if_neg (fun hh => h2 hh.2.1)]
  · simp only [h, decide_false, Bool.false_eq_true, if_false, window_Cut.j0, if_true]
    unfold cutS
    rw [if_neg (fun hh => h hh.1)]

def HoldsP (a b x n : Int) : Prop := RightP a b ∧ 1 ≤ n ∧ a ≤ x ∧ x + n ≤ a + b
instance (a b x n : Int) : Decidable (HoldsP a b x n) := by unfold HoldsP; infer_instance
theorem holds_eq (k : Nat) (a b x n : Int) : window_Holds.f (k + 1) a b x n = some (decide (HoldsP a b x n)) := by
  unfold window_Holds.f
  by_cases hn : n > 0
  · rw [if_pos hn, right_eq, Option.bind_some]
    by_cases h2 : RightP x n
    · simp only [h2, decide_true, if_true]
      rw [cut_eq, Option.bind_some]
      congr 1
      rw [Bool.eq_iff_iff]
      simp only [Bool.and_eq_true, beq_iff_eq, decide_eq_true_eq]
      unfold cutS HoldsP
      have h2' := h2
      unfold RightP at h2'
      by_cases h : RightP a b ∧ RightP x n ∧ max a x < min (a + b) (x + n)
      · rw [if_pos h]
        have h' := h.1
        unfold RightP at h'
        simp only
        constructor
        · intro hh
          refine ⟨h.1, by omega, by omega, by omega⟩
        · intro hh
          omega
      · rw [if_neg h]
        simp only
        constructor
        · intro hh; omega
        · intro hh
          refine absurd ⟨hh.1, h2, ?_⟩ h
          omega
    · simp only [h2, decide_false, Bool.false_eq_true, if_false]
      congr 1
      symm
      simp only [decide_eq_false_iff_not]
      unfold HoldsP RightP at *
      omega
  · rw [if_neg hn]
    congr 1
    symm
    simp only [decide_eq_false_iff_not]
    unfold HoldsP
    omega
end Go.Proofs.Ytamcpmfimicnjaa.L
