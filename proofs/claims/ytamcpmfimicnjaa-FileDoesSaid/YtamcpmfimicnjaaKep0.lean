import Derived.Test.YtamcpmfimicnjaaX
import Derived.Test.YtamcpmfimicnjaaFf
import Derived.Test.YtamcpmfimicnjaaLFile
import Derived.Test.YtamcpmfimicnjaaLSameW
import Derived.Test.YtamcpmfimicnjaaLSameB
import Derived.Test.YtamcpmfimicnjaaLCells
namespace Go.Proofs.Ytamcpmfimicnjaa.P
open Go.RowKit Go.Proofs.YtamcpmfimicnjaaW.PrintWords Go.Proofs.YtamcpmfimicnjaaW.PrintLast Go.Proofs.YtamcpmfimicnjaaW.PrintMore
attribute [local go_sem] max2_int min2_int max_two min_two max_three min_three max_four min_four   -- for this text's walks alone
set_option linter.unusedVariables false
set_option linter.unusedSimpArgs false
open Go.Proofs.Ytamcpmfimicnjaa.L

theorem Fi.write_back {α : Type} {a b p : Int} {l m L : List α} (h : writeS a b l p m = (L, 0)) : readS a b L p m.length = (m, 0) := by
  have hl := Fi.write_len h
  unfold writeS at h
  by_cases h1 : RightP a b ∧ (l.length : Int) = b ∧ 1 ≤ m.length
  · rw [if_pos h1] at h
    by_cases h2 : HoldsP a b p m.length
    · rw [if_pos h2] at h
      injection h with h3 h4
      have h5 := h2
      unfold HoldsP at h5
      have h6 : (p - a).toNat + m.length ≤ l.length := by omega
      unfold readS
      rw [if_pos ⟨h1.1, by omega, by omega⟩, if_pos h2, ← h3]
      refine Prod.ext ?_ rfl
      simp only [Int.toNat_natCast]
      rw [List.append_assoc, List.drop_append_of_le_length (by rw [List.length_take]; omega), List.drop_take, Nat.sub_self, List.take_zero, List.nil_append, List.take_append_of_le_length (Nat.le_refl _), List.take_length]
    · rw [if_neg h2] at h
      injection h with h3 h4
      cases h4
  · rw [if_neg h1] at h
    injection h with h3 h4
    cases h4
theorem Fi.setBits_ok {x y : S31} {p : Int} {m : List Bool} (h : Fi.setBits x p m = (y, 0)) : Fi.P x ∧ Fi.P y ∧ Fi.bits y false p m.length = (m, 0) ∧ y.f0 = x.f0 ∧ y.f2 = x.f2 ∧ y.f3 = x.f3 ∧ y.f4 = x.f4 := by
  unfold Fi.setBits at h
  by_cases hP : Fi.P x
  · rw [if_pos hP] at h
    obtain ⟨L, E, hw⟩ : ∃ L E, writeS x.f0.f0.f0 x.f0.f0.f1 x.f1 p m = (L, E) := ⟨_, _, rfl⟩
    simp only [hw] at h
    by_cases hE : E = 0
    · subst hE
      rw [if_pos rfl] at h
      injection h with h1 h2
      subst h1
      have hl := (Fi.write_len hw).1
      have hPy : Fi.P { x with f1 := L } := by
        obtain ⟨hb, q1, q2⟩ := hP
        exact ⟨hb, by show (L.length : Int) = x.f0.f0.f1; omega, q2⟩
      refine ⟨hP, hPy, ?_, rfl, rfl, rfl, rfl⟩
      unfold Fi.bits
      rw [if_pos hPy, if_neg Bool.false_ne_true]
      exact Fi.write_back hw
    · rw [if_neg hE] at h
      injection h with h1 h2
      exact absurd h2 hE
  · rw [if_neg hP] at h
    injection h with h1 h2
    cases h2
theorem Fi.setBits_no {x y : S31} {p E : Int} {m : List Bool} (h : Fi.setBits x p m = (y, E)) (hE : E ≠ 0) : y = z31 := by
  unfold Fi.setBits at h
  split at h
  · split at h
    · injection h with h1 h2; exact absurd h2.symm hE
    · injection h with h1 h2; exact h1.symm
  · injection h with h1 h2; exact h1.symm
theorem Fi.setWords_ok {x y : S31} {p : Int} {m : List Int} (h : Fi.setWords x p m = (y, 0)) : Fi.P x ∧ Fi.P y ∧ Fi.words y false p m.length = (m, 0) ∧ y.f0 = x.f0 ∧ y.f1 = x.f1 ∧ y.f2 = x.f2 ∧ y.f4 = x.f4 := by
  unfold Fi.setWords at h
  by_cases hP : Fi.P x
  · rw [if_pos hP] at h
    obtain ⟨L, E, hw⟩ : ∃ L E, writeS x.f0.f2.f0 x.f0.f2.f1 x.f3 p m = (L, E) := ⟨_, _, rfl⟩
    simp only [hw] at h
    by_cases hE : E = 0
    · subst hE
      rw [if_pos rfl] at h
      by_cases hM : MeetsP x.f0.f4.f0 x.f0.f4.f1 p m.length
      · rw [if_pos hM] at h
        injection h with h1 h2
        cases h2
      · rw [if_neg hM] at h
        injection h with h1 h2
        subst h1
        have hl := (Fi.write_len hw).1
        have hPy : Fi.P { x with f3 := L } := by
          obtain ⟨hb, q1, q2, q3, q4⟩ := hP
          exact ⟨hb, q1, q2, by show (L.length : Int) = x.f0.f2.f1; omega, q4⟩
        refine ⟨hP, hPy, ?_, rfl, rfl, rfl, rfl⟩
        unfold Fi.words
        rw [if_pos hPy, if_neg Bool.false_ne_true, if_neg (fun hh => hM hh.2)]
        exact Fi.write_back hw
    · rw [if_neg hE] at h
      injection h with h1 h2
      exact absurd h2 hE
  · rw [if_neg hP] at h
    injection h with h1 h2
    cases h2
theorem Fi.setWords_no {x y : S31} {p E : Int} {m : List Int} (h : Fi.setWords x p m = (y, E)) (hE : E ≠ 0) : y = z31 := by
  unfold Fi.setWords at h
  split at h
  · split at h
    · split at h
      · injection h with h1 h2; exact h1.symm
      · injection h with h1 h2; exact absurd h2.symm hE
    · injection h with h1 h2; exact h1.symm
  · injection h with h1 h2; exact h1.symm
theorem Fi.P_Fit {x : S31} (h : Fi.P x) : Fi.Fit x := by
  have h2 := Fi.P_fit h
  unfold Fi.Fit
  omega
theorem Fi.Fit_z : Fi.Fit z31 := by unfold Fi.Fit; decide
theorem Fi.new_P {a0 a1 a2 a3 a4 a5 a6 a7 a8 a9 : Int} (hP : BankP a0 a1 a2 a3 a4 a5 a6 a7 a8 a9) : Fi.P (Fi.new a0 a1 a2 a3 a4 a5 a6 a7 a8 a9) := by
  rw [show Fi.new a0 a1 a2 a3 a4 a5 a6 a7 a8 a9 = _ from if_pos hP]
  obtain ⟨h1, h2, h3, h4, h5⟩ := hP
  have g1 := h1; have g2 := h2; have g3 := h3; have g4 := h4
  unfold RightP at g1 g2 g3 g4
  refine ⟨⟨h1, h2, h3, h4, h5⟩, ?_, ?_, ?_, ?_⟩ <;> simp only [List.length_replicate] <;> omega

end Go.Proofs.Ytamcpmfimicnjaa.P
