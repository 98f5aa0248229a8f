import Derived.Test.YtedfbemifigoeaaX
import Derived.Test.YtedfbemifigoeaaAa
import Derived.Test.YtedfbemifigoeaaLWord
import Derived.Test.YtedfbemifigoeaaLBits
namespace Go.Proofs.Ytedfbemifigoeaa.P
open Go.RowKit Go.Proofs.YtedfbemifigoeaaW.PrintWords Go.Proofs.YtedfbemifigoeaaW.PrintLast Go.Proofs.YtedfbemifigoeaaW.PrintMore
attribute [local go_sem] max2_int min2_int max_two min_two max_three min_three max_four min_four   -- for this text's walks alone
set_option linter.unusedVariables false
set_option linter.unusedSimpArgs false

open Go.Proofs.Ytedfbemifigoeaa.L

theorem As.rel {x : S25} (h : As.right x = true) : As.known x.f0 = true ∧ As.in x.f1 0 65535 = true ∧ As.asked x = true := by
  simp only [As.right, Bool.and_eq_true] at h
  exact ⟨h.1.1.1, h.1.2, h.2⟩
theorem As.in_iff {n p q : Int} (h : As.in n p q = true) : p ≤ n ∧ n ≤ q := by
  simpa only [As.in, Bool.and_eq_true, decide_eq_true_eq] using h
theorem As.facts {x : S25} (h : As.right x = true) : IntKind.u8.wrap x.f0 = x.f0 ∧ (1 ≤ x.f0 ∧ x.f0 ≤ 23) ∧ (((x.f0 == 1) = true ∧ (x.f0 == 2) = false ∧ (x.f0 == 3) = false ∧ (x.f0 == 4) = false ∧ (x.f0 == 5) = false ∧ (x.f0 == 6) = false ∧ (x.f0 == 15) = false ∧ (x.f0 == 16) = false ∧ (x.f0 == 22) = false ∧ (x.f0 == 23) = false ∧ As.nums x = [x.f1, x.f2] ∧ As.rest x = [] ∧ ((0 ≤ x.f1 ∧ x.f1 ≤ 65535) ∧ (0 ≤ x.f2 ∧ x.f2 ≤ 65535)) ∧ True) ∨ ((x.f0 == 1) = false ∧ (x.f0 == 2) = true ∧ (x.f0 == 3) = false ∧ (x.f0 == 4) = false ∧ (x.f0 == 5) = false ∧ (x.f0 == 6) = false ∧ (x.f0 == 15) = false ∧ (x.f0 == 16) = false ∧ (x.f0 == 22) = false ∧ (x.f0 == 23) = false ∧ As.nums x = [x.f1, x.f2] ∧ As.rest x = [] ∧ ((0 ≤ x.f1 ∧ x.f1 ≤ 65535) ∧ (0 ≤ x.f2 ∧ x.f2 ≤ 65535)) ∧ True) ∨ ((x.f0 == 1) = false ∧ (x.f0 == 2) = false ∧ (x.f0 == 3) = true ∧ (x.f0 == 4) = false ∧ (x.f0 == 5) = false ∧ (x.f0 == 6) = false ∧ (x.f0 == 15) = false ∧ (x.f0 == 16) = false ∧ (x.f0 == 22) = false ∧ (x.f0 == 23) = false ∧ As.nums x = [x.f1, x.f2] ∧ As.rest x = [] ∧ ((0 ≤ x.f1 ∧ x.f1 ≤ 65535) ∧ (0 ≤ x.f2 ∧ x.f2 ≤ 65535)) ∧ True) ∨ ((x.f0 == 1) = false ∧ (x.f0 == 2) = false ∧ (x.f0 == 3) = false ∧ (x.f0 == 4) = true ∧ (x.f0 == 5) = false ∧ (x.f0 == 6) = false ∧ (x.f0 == 15) = false ∧ (x.f0 == 16) = false ∧ (x.f0 == 22) = false ∧ (x.f0 == 23) = false ∧ As.nums x = [x.f1, x.f2] ∧ As.rest x = [] ∧ ((0 ≤ x.f1 ∧ x.f1 ≤ 65535) ∧ (0 ≤ x.f2 ∧ x.f2 ≤ 65535)) ∧ True) ∨ ((x.f0 == 1) = false ∧ (x.f0 == 2) = false ∧ (x.f0 == 3) = false ∧ (x.f0 == 4) = false ∧ (x.f0 == 5) = true ∧ (x.f0 == 6) = false ∧ (x.f0 == 15) = false ∧ (x.f0 == 16) = false ∧ (x.f0 == 22) = false ∧ (x.f0 == 23) = false ∧ As.nums x = [x.f1, x.f3] ∧ As.rest x = [] ∧ ((0 ≤ x.f1 ∧ x.f1 ≤ 65535) ∧ (0 ≤ x.f3 ∧ x.f3 ≤ 65535)) ∧ True) ∨ ((x.f0 == 1) = false ∧ (x.f0 == 2) = false ∧ (x.f0 == 3) = false ∧ (x.f0 == 4) = false ∧ (x.f0 == 5) = false ∧ (x.f0 == 6) = true ∧ (x.f0 == 15) = false ∧ (x.f0 == 16) = false ∧ (x.f0 == 22) = false ∧ (x.f0 == 23) = false ∧ As.nums x = [x.f1, x.f3] ∧ As.rest x = [] ∧ ((0 ≤ x.f1 ∧ x.f1 ≤ 65535) ∧ (0 ≤ x.f3 ∧ x.f3 ≤ 65535)) ∧ True) ∨ ((x.f0 == 1) = false ∧ (x.f0 == 2) = false ∧ (x.f0 == 3) = false ∧ (x.f0 == 4) = false ∧ (x.f0 == 5) = false ∧ (x.f0 == 6) = false ∧ (x.f0 == 15) = true ∧ (x.f0 == 16) = false ∧ (x.f0 == 22) = false ∧ (x.f0 == 23) = false ∧ As.nums x = [x.f1, x.f2] ∧ As.rest x = As.sized (pk x.f8) ∧ ((0 ≤ x.f1 ∧ x.f1 ≤ 65535) ∧ (0 ≤ x.f2 ∧ x.f2 ≤ 65535)) ∧ x.f8.length ≤ 2000) ∨ ((x.f0 == 1) = false ∧ (x.f0 == 2) = false ∧ (x.f0 == 3) = false ∧ (x.f0 == 4) = false ∧ (x.f0 == 5) = false ∧ (x.f0 == 6) = false ∧ (x.f0 == 15) = false ∧ (x.f0 == 16) = true ∧ (x.f0 == 22) = false ∧ (x.f0 == 23) = false ∧ As.nums x = [x.f1, x.f2] ∧ As.rest x = As.sized (putW x.f9) ∧ ((0 ≤ x.f1 ∧ x.f1 ≤ 65535) ∧ (0 ≤ x.f2 ∧ x.f2 ≤ 65535)) ∧ (x.f9.length ≤ 1000 ∧ (x.f9.length : Int) = x.f2)) ∨ ((x.f0 == 1) = false ∧ (x.f0 == 2) = false ∧ (x.f0 == 3) = false ∧ (x.f0 == 4) = false ∧ (x.f0 == 5) = false ∧ (x.f0 == 6) = false ∧ (x.f0 == 15) = false ∧ (x.f0 == 16) = false ∧ (x.f0 == 22) = true ∧ (x.f0 == 23) = false ∧ As.nums x = [x.f1, x.f4, x.f5] ∧ As.rest x = [] ∧ ((0 ≤ x.f1 ∧ x.f1 ≤ 65535) ∧ (0 ≤ x.f4 ∧ x.f4 ≤ 65535) ∧ (0 ≤ x.f5 ∧ x.f5 ≤ 65535)) ∧ True) ∨ ((x.f0 == 1) = false ∧ (x.f0 == 2) = false ∧ (x.f0 == 3) = false ∧ (x.f0 == 4) = false ∧ (x.f0 == 5) = false ∧ (x.f0 == 6) = false ∧ (x.f0 == 15) = false ∧ (x.f0 == 16) = false ∧ (x.f0 == 22) = false ∧ (x.f0 == 23) = true ∧ As.nums x = [x.f6, x.f7, x.f1, x.f2] ∧ As.rest x = As.sized (putW x.f9) ∧ ((0 ≤ x.f6 ∧ x.f6 ≤ 65535) ∧ (0 ≤ x.f7 ∧ x.f7 ≤ 65535) ∧ (0 ≤ x.f1 ∧ x.f1 ≤ 65535) ∧ (0 ≤ x.f2 ∧ x.f2 ≤ 65535)) ∧ (x.f9.length ≤ 1000 ∧ (x.f9.length : Int) = x.f2))) := by
  obtain ⟨hk, hi, ha⟩ := As.rel h
  have hi2 := As.in_iff hi
  have h8 : ∀ n : Int, 1 ≤ n ∧ n ≤ 23 → IntKind.u8.wrap n = n := fun n hn => by
    have : IntKind.u8.wrap n = n % 256 := by simp [IntKind.wrap, IntKind.bits, IntKind.signed]
    rw [this]
    omega
  rcases As.cases x.f0 with ⟨dk, d1, d2, d3, d4, d5, d6, d15, d16, d22, d23⟩ | ⟨dk, d1, d2, d3, d4, d5, d6, d15, d16, d22, d23⟩ | ⟨dk, d1, d2, d3, d4, d5, d6, d15, d16, d22, d23⟩ | ⟨dk, d1, d2, d3, d4, d5, d6, d15, d16, d22, d23⟩ | ⟨dk, d1, d2, d3, d4, d5, d6, d15, d16, d22, d23⟩ | ⟨dk, d1, d2, d3, d4, d5, d6, d15, d16, d22, d23⟩ | ⟨dk, d1, d2, d3, d4, d5, d6, d15, d16, d22, d23⟩ | ⟨dk, d1, d2, d3, d4, d5, d6, d15, d16, d22, d23⟩ | ⟨dk, d1, d2, d3, d4, d5, d6, d15, d16, d22, d23⟩ | ⟨dk, d1, d2, d3, d4, d5, d6, d15, d16, d22, d23⟩ | ⟨dk, d1, d2, d3, d4, d5, d6, d15, d16, d22, d23⟩
  · have e0 : x.f0 = 1 := by simpa using d1
    simp only [As.asked, d1, d2, d3, d4, d5, d6, d15, d16, d22, d23, Bool.false_or, Bool.or_false, Bool.true_or, Bool.or_true, Bool.false_eq_true, if_true, if_false, Bool.and_eq_true, Bool.or_eq_true, beq_iff_eq] at ha
    have q1 := As.in_iff ha
    refine ⟨h8 _ (by omega), by omega, .inl ⟨d1, d2, d3, d4, d5, d6, d15, d16, d22, d23, by simp only [As.nums, d1, d2, d3, d4, d5, d6, d15, d16, d22, d23, Bool.false_or, Bool.or_false, Bool.true_or, Bool.or_true, Bool.false_eq_true, if_true, if_false], by simp only [As.rest, d1, d2, d3, d4, d5, d6, d15, d16, d22, d23, Bool.false_or, Bool.or_false, Bool.true_or, Bool.or_true, Bool.false_eq_true, if_true, if_false], ⟨by omega, by omega⟩, trivial⟩⟩
  · have e0 : x.f0 = 2 := by simpa using d2
    simp only [As.asked, d1, d2, d3, d4, d5, d6, d15, d16, d22, d23, Bool.false_or, Bool.or_false, Bool.true_or, Bool.or_true, Bool.false_eq_true, if_true, if_false, Bool.and_eq_true, Bool.or_eq_true, beq_iff_eq] at ha
    have q1 := As.in_iff ha
    refine ⟨h8 _ (by omega), by omega, .inr (.inl ⟨d1, d2, d3, d4, d5, d6, d15, d16, d22, d23, by simp only [As.nums, d1, d2, d3, d4, d5, d6, d15, d16, d22, d23, Bool.false_or, Bool.or_false, Bool.true_or, Bool.or_true, Bool.false_eq_true, if_true, if_false], by simp only [As.rest, d1, d2, d3, d4, d5, d6, d15, d16, d22, d23, Bool.false_or, Bool.or_false, Bool.true_or, Bool.or_true, Bool.false_eq_true, if_true, if_false], ⟨by omega, by omega⟩, trivial⟩)⟩
  · have e0 : x.f0 = 3 := by simpa using d3
    simp only [As.asked, d1, d2, d3, d4, d5, d6, d15, d16, d22, d23, Bool.false_or, Bool.or_false, Bool.true_or, Bool.or_true, Bool.false_eq_true, if_true, if_false, Bool.and_eq_true, Bool.or_eq_true, beq_iff_eq] at ha
    have q1 := As.in_iff ha
    refine ⟨h8 _ (by omega), by omega, .inr (.inr (.inl ⟨d1, d2, d3, d4, d5, d6, d15, d16, d22, d23, by simp only [As.nums, d1, d2, d3, d4, d5, d6, d15, d16, d22, d23, Bool.false_or, Bool.or_false, Bool.true_or, Bool.or_true, Bool.false_eq_true, if_true, if_false], by simp only [As.rest, d1, d2, d3, d4, d5, d6, d15, d16, d22, d23, Bool.false_or, Bool.or_false, Bool.true_or, Bool.or_true, Bool.false_eq_true, if_true, if_false], ⟨by omega, by omega⟩, trivial⟩))⟩
  · have e0 : x.f0 = 4 := by simpa using d4
    simp only [As.asked, d1, d2, d3, d4, d5, d6, d15, d16, d22, d23, Bool.false_or, Bool.or_false, Bool.true_or, Bool.or_true, Bool.false_eq_true, if_true, if_false, Bool.and_eq_true, Bool.or_eq_true, beq_iff_eq] at ha
    have q1 := As.in_iff ha
    refine ⟨h8 _ (by omega), by omega, .inr (.inr (.inr (.inl ⟨d1, d2, d3, d4, d5, d6, d15, d16, d22, d23, by simp only [As.nums, d1, d2, d3, d4, d5, d6, d15, d16, d22, d23, Bool.false_or, Bool.or_false, Bool.true_or, Bool.or_true, Bool.false_eq_true, if_true, if_false], by simp only [As.rest, d1, d2, d3, d4, d5, d6, d15, d16, d22, d23, Bool.false_or, Bool.or_false, Bool.true_or, Bool.or_true, Bool.false_eq_true, if_true, if_false], ⟨by omega, by omega⟩, trivial⟩)))⟩
  · have e0 : x.f0 = 5 := by simpa using d5
    simp only [As.asked, d1, d2, d3, d4, d5, d6, d15, d16, d22, d23, Bool.false_or, Bool.or_false, Bool.true_or, Bool.or_true, Bool.false_eq_true, if_true, if_false, Bool.and_eq_true, Bool.or_eq_true, beq_iff_eq] at ha
    have q1 : x.f3 = 0 ∨ x.f3 = 65280 := ha
    refine ⟨h8 _ (by omega), by omega, .inr (.inr (.inr (.inr (.inl ⟨d1, d2, d3, d4, d5, d6, d15, d16, d22, d23, by simp only [As.nums, d1, d2, d3, d4, d5, d6, d15, d16, d22, d23, Bool.false_or, Bool.or_false, Bool.true_or, Bool.or_true, Bool.false_eq_true, if_true, if_false], by simp only [As.rest, d1, d2, d3, d4, d5, d6, d15, d16, d22, d23, Bool.false_or, Bool.or_false, Bool.true_or, Bool.or_true, Bool.false_eq_true, if_true, if_false], ⟨by omega, by omega⟩, trivial⟩))))⟩
  · have e0 : x.f0 = 6 := by simpa using d6
    simp only [As.asked, d1, d2, d3, d4, d5, d6, d15, d16, d22, d23, Bool.false_or, Bool.or_false, Bool.true_or, Bool.or_true, Bool.false_eq_true, if_true, if_false, Bool.and_eq_true, Bool.or_eq_true, beq_iff_eq] at ha
    have q1 := As.in_iff ha
    refine ⟨h8 _ (by omega), by omega, .inr (.inr (.inr (.inr (.inr (.inl ⟨d1, d2, d3, d4, d5, d6, d15, d16, d22, d23, by simp only [As.nums, d1, d2, d3, d4, d5, d6, d15, d16, d22, d23, Bool.false_or, Bool.or_false, Bool.true_or, Bool.or_true, Bool.false_eq_true, if_true, if_false], by simp only [As.rest, d1, d2, d3, d4, d5, d6, d15, d16, d22, d23, Bool.false_or, Bool.or_false, Bool.true_or, Bool.or_true, Bool.false_eq_true, if_true, if_false], ⟨by omega, by omega⟩, trivial⟩)))))⟩
  · have e0 : x.f0 = 15 := by simpa using d15
    simp only [As.asked, d1, d2, d3, d4, d5, d6, d15, d16, d22, d23, Bool.false_or, Bool.or_false, Bool.true_or, Bool.or_true, Bool.false_eq_true, if_true, if_false, Bool.and_eq_true, Bool.or_eq_true, beq_iff_eq] at ha
    have q1 := As.in_iff ha.1
    have q2 := ha.2
    refine ⟨h8 _ (by omega), by omega, .inr (.inr (.inr (.inr (.inr (.inr (.inl ⟨d1, d2, d3, d4, d5, d6, d15, d16, d22, d23, by simp only [As.nums, d1, d2, d3, d4, d5, d6, d15, d16, d22, d23, Bool.false_or, Bool.or_false, Bool.true_or, Bool.or_true, Bool.false_eq_true, if_true, if_false], by simp only [As.rest, d1, d2, d3, d4, d5, d6, d15, d16, d22, d23, Bool.false_or, Bool.or_false, Bool.true_or, Bool.or_true, Bool.false_eq_true, if_true, if_false], ⟨by omega, by omega⟩, by omega⟩))))))⟩
  · have e0 : x.f0 = 16 := by simpa using d16
    simp only [As.asked, d1, d2, d3, d4, d5, d6, d15, d16, d22, d23, Bool.false_or, Bool.or_false, Bool.true_or, Bool.or_true, Bool.false_eq_true, if_true, if_false, Bool.and_eq_true, Bool.or_eq_true, beq_iff_eq] at ha
    have q1 := As.in_iff ha.1
    have q2 := ha.2
    refine ⟨h8 _ (by omega), by omega, .inr (.inr (.inr (.inr (.inr (.inr (.inr (.inl ⟨d1, d2, d3, d4, d5, d6, d15, d16, d22, d23, by simp only [As.nums, d1, d2, d3, d4, d5, d6, d15, d16, d22, d23, Bool.false_or, Bool.or_false, Bool.true_or, Bool.or_true, Bool.false_eq_true, if_true, if_false], by simp only [As.rest, d1, d2, d3, d4, d5, d6, d15, d16, d22, d23, Bool.false_or, Bool.or_false, Bool.true_or, Bool.or_true, Bool.false_eq_true, if_true, if_false], ⟨by omega, by omega⟩, ⟨by omega, q2⟩⟩)))))))⟩
  · have e0 : x.f0 = 22 := by simpa using d22
    simp only [As.asked, d1, d2, d3, d4, d5, d6, d15, d16, d22, d23, Bool.false_or, Bool.or_false, Bool.true_or, Bool.or_true, Bool.false_eq_true, if_true, if_false, Bool.and_eq_true, Bool.or_eq_true, beq_iff_eq] at ha
    have q1 := As.in_iff ha.1
    have q2 := As.in_iff ha.2
    refine ⟨h8 _ (by omega), by omega, .inr (.inr (.inr (.inr (.inr (.inr (.inr (.inr (.inl ⟨d1, d2, d3, d4, d5, d6, d15, d16, d22, d23, by simp only [As.nums, d1, d2, d3, d4, d5, d6, d15, d16, d22, d23, Bool.false_or, Bool.or_false, Bool.true_or, Bool.or_true, Bool.false_eq_true, if_true, if_false], by simp only [As.rest, d1, d2, d3, d4, d5, d6, d15, d16, d22, d23, Bool.false_or, Bool.or_false, Bool.true_or, Bool.or_true, Bool.false_eq_true, if_true, if_false], ⟨by omega, by omega, by omega⟩, trivial⟩))))))))⟩
  · have e0 : x.f0 = 23 := by simpa using d23
    simp only [As.asked, d1, d2, d3, d4, d5, d6, d15, d16, d22, d23, Bool.false_or, Bool.or_false, Bool.true_or, Bool.or_true, Bool.false_eq_true, if_true, if_false, Bool.and_eq_true, Bool.or_eq_true, beq_iff_eq] at ha
    have q1 := As.in_iff ha.1.1.1
    have q2 := As.in_iff ha.1.1.2
    have q3 := As.in_iff ha.1.2
    have q4 := ha.2
    refine ⟨h8 _ (by omega), by omega, .inr (.inr (.inr (.inr (.inr (.inr (.inr (.inr (.inr ⟨d1, d2, d3, d4, d5, d6, d15, d16, d22, d23, by simp only [As.nums, d1, d2, d3, d4, d5, d6, d15, d16, d22, d23, Bool.false_or, Bool.or_false, Bool.true_or, Bool.or_true, Bool.false_eq_true, if_true, if_false], by simp only [As.rest, d1, d2, d3, d4, d5, d6, d15, d16, d22, d23, Bool.false_or, Bool.or_false, Bool.true_or, Bool.or_true, Bool.false_eq_true, if_true, if_false], ⟨by omega, by omega, by omega, by omega⟩, ⟨by omega, q4⟩⟩))))))))⟩
  · exact absurd (dk.symm.trans hk) (by decide)

end Go.Proofs.Ytedfbemifigoeaa.P
