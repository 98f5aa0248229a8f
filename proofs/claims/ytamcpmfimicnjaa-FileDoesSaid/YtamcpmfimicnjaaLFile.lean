/- What the tests of files come to: whether a file may be, and whether it has few cells. -/
import Derived.Test.YtamcpmfimicnjaaLRefWindow
import Derived.Test.YtamcpmfimicnjaaPx4
import Derived.Test.YtamcpmfimicnjaaPx6
import Derived.Test.YtamcpmfimicnjaaPx3
import Derived.Test.YtamcpmfimicnjaaPx0
namespace Go.Proofs.Ytamcpmfimicnjaa.L
open Go.RowKit Go.Proofs.Ytamcpmfimicnjaa.P Go.Proofs.YtamcpmfimicnjaaW.PrintWords Go.Proofs.YtamcpmfimicnjaaW.PrintLast
set_option linter.unusedVariables false
set_option linter.unusedSimpArgs false

theorem dec_congr {p q : Prop} [Decidable p] [Decidable q] (h : p ↔ q) : decide p = decide q := decide_eq_decide.mpr h
def BankP (a0 a1 a2 a3 a4 a5 a6 a7 a8 a9 : Int) : Prop := RightP a0 a1 ∧ RightP a2 a3 ∧ RightP a4 a5 ∧ RightP a6 a7 ∧ RightP a8 a9
instance (a0 a1 a2 a3 a4 a5 a6 a7 a8 a9 : Int) : Decidable (BankP a0 a1 a2 a3 a4 a5 a6 a7 a8 a9) := by unfold BankP; infer_instance
theorem may_eq (a0 a1 a2 a3 a4 a5 a6 a7 a8 a9 : Int) : file_may.f a0 a1 a2 a3 a4 a5 a6 a7 a8 a9 = some (decide (BankP a0 a1 a2 a3 a4 a5 a6 a7 a8 a9)) := by
  have hW : ∀ a b, file_may.W a b = decide (RightP a b) := by
    intro a b
    have := right_eq a b
    unfold window_Right.f at this
    exact Option.some.inj this
  unfold file_may.f
  rw [hW, hW, hW, hW, hW]
  refine congrArg some ?_
  rw [Bool.eq_iff_iff]
  simp only [Bool.and_eq_true, decide_eq_true_eq, and_assoc]
  exact Iff.rfl
/-- May a file be? -/
def FileP (a0 a1 a2 a3 a4 a5 a6 a7 a8 a9 : Int) (l1 l2 : List Bool) (l3 l4 : List Int) : Prop :=
  BankP a0 a1 a2 a3 a4 a5 a6 a7 a8 a9 ∧ (l1.length : Int) = a1 ∧ (l2.length : Int) = a3 ∧ (l3.length : Int) = a5 ∧ (l4.length : Int) = a7
instance (a0 a1 a2 a3 a4 a5 a6 a7 a8 a9 : Int) (l1 l2 : List Bool) (l3 l4 : List Int) : Decidable (FileP a0 a1 a2 a3 a4 a5 a6 a7 a8 a9 l1 l2 l3 l4) := by unfold FileP; infer_instance
theorem fright_eq (a0 a1 a2 a3 a4 a5 a6 a7 a8 a9 : Int) (l1 l2 : List Bool) (l3 l4 : List Int) : file_Right.f a0 a1 a2 a3 a4 a5 a6 a7 a8 a9 l1 l2 l3 l4 = some (decide (FileP a0 a1 a2 a3 a4 a5 a6 a7 a8 a9 l1 l2 l3 l4)) := by
  unfold file_Right.f
  by_cases h : a1 = (l1.length : Int) ∧ a3 = (l2.length : Int) ∧ a5 = (l3.length : Int) ∧ a7 = (l4.length : Int)
  · rw [if_pos h, may_eq]
    refine congrArg some (dec_congr ?_)
    exact ⟨fun hb => ⟨hb, h.1.symm, h.2.1.symm, h.2.2.1.symm, h.2.2.2.symm⟩, fun hb => hb.1⟩
  · rw [if_neg h, decide_eq_false]
    exact fun hb => h ⟨hb.2.1.symm, hb.2.2.1.symm, hb.2.2.2.1.symm, hb.2.2.2.2.symm⟩
theorem few_eq (a0 a1 a2 a3 a4 a5 a6 a7 a8 a9 : Int) {l1 l2 : List Bool} {l3 l4 : List Int} (h1 : l1.length ≤ 140737488351232) (h2 : l2.length ≤ 140737488351232) (h3 : l3.length ≤ 140737488351232) (h4 : l4.length ≤ 140737488351232) :
    bilgeref14_Few.f a0 a1 a2 a3 a4 a5 a6 a7 a8 a9 l1 l2 l3 l4 = some (decide (l1.length + l2.length + l3.length + l4.length ≤ 4000)) := by
  unfold bilgeref14_Few.f
  rw [w64 (x := (l1.length : Int) + l2.length) (by omega), w64 (x := (l1.length : Int) + l2.length + l3.length) (by omega), w64 (x := (l1.length : Int) + l2.length + l3.length + l4.length) (by omega)]
  refine congrArg some (dec_congr ?_)
  omega
end Go.Proofs.Ytamcpmfimicnjaa.L
