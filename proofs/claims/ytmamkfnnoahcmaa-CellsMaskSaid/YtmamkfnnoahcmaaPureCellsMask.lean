/- The pure statement of CellsMask: by 65535 a word stays, by 0 it is given; done twice it is as once; what one mask leaves another one changes. For all words. -/
import Derived.Test.YtmamkfnnoahcmaaPx4
import Derived.Test.YtmamkfnnoahcmaaPx3
import Derived.Test.YtmamkfnnoahcmaaLMask
namespace Go.Proofs.Ytmamkfnnoahcmaa.Pure
open Go.RowKit Go.Proofs.Ytmamkfnnoahcmaa.P Go.Proofs.YtmamkfnnoahcmaaW.PrintWords Go.Proofs.YtmamkfnnoahcmaaW.PrintLast Go.Proofs.Ytmamkfnnoahcmaa.L
set_option maxRecDepth 100000 in
theorem sure13m : ∃ K, ∀ k, K ≤ k → bilgelaw13_sure.f k = some true :=
  Ev.of (g := fun k => bilgelaw13_sure.f k) (fun k => bilgelaw13_sure.mono k) (k := 20) (by decide +kernel)

theorem CellsMask : bilgelaw13_CellsMask.Pure := by
  intro a b c ha hb hc
  replace ha := u16_of ha
  replace hb := u16_of hb
  replace hc := u16_of hc
  obtain ⟨w, rfl⟩ := Int.eq_ofNat_of_zero_le ha.1
  obtain ⟨m, rfl⟩ := Int.eq_ofNat_of_zero_le hb.1
  obtain ⟨o, rfl⟩ := Int.eq_ofNat_of_zero_le hc.1
  have hw : w < 65536 := by omega
  have hm : m < 65536 := by omega
  have ho : o < 65536 := by omega
  obtain ⟨K, hK⟩ := sure13m
  refine ⟨K, ?_⟩
  have hx := maskN_lt (m := m) hw ho
  have hn : 65535 ^^^ m < 65536 := Nat.xor_lt_two_pow (n := 16) (by decide) hm
  have bn : ∀ i, (65535 ^^^ m).testBit i = (decide (i < 16) ^^ m.testBit i) := by
    intro i
    rw [Nat.testBit_xor, show 65535 = 2 ^ 16 - 1 by rfl, Nat.testBit_two_pow_sub_one]
  have e1 : maskN w 65535 o = w := by
    apply Nat.eq_of_testBit_eq
    intro i
    rw [maskN_bit (by decide), show 65535 = 2 ^ 16 - 1 by rfl, Nat.testBit_two_pow_sub_one]
    by_cases h : i < 16
    · simp [h]
    · simp [h, bit_hi hw h]
  have e2 : maskN w 0 o = o := by
    apply Nat.eq_of_testBit_eq
    intro i
    rw [maskN_bit (by decide)]
    by_cases h : i < 16
    · simp [h]
    · simp [h, bit_hi ho h]
  have e3 : maskN (maskN w m o) m o = maskN w m o := by
    apply Nat.eq_of_testBit_eq
    intro i
    simp only [maskN_bit hm]
    by_cases h : i < 16
    · simp only [h, decide_true]; cases w.testBit i <;> cases m.testBit i <;> cases o.testBit i <;> rfl
    · simp [h, bit_hi hw h, bit_hi hm h, bit_hi ho h]
  have e4 : maskN (maskN w m o) (65535 ^^^ m) w = maskN o (65535 ^^^ m) w := by
    apply Nat.eq_of_testBit_eq
    intro i
    simp only [maskN_bit hm, maskN_bit hn, bn]
    by_cases h : i < 16
    · simp only [h, decide_true]; cases w.testBit i <;> cases m.testBit i <;> cases o.testBit i <;> rfl
    · simp [h, bit_hi hw h, bit_hi hm h, bit_hi ho h]
  have e5 : maskN w m o &&& m = w &&& m := by
    apply Nat.eq_of_testBit_eq
    intro i
    simp only [Nat.testBit_and, maskN_bit hm]
    by_cases h : i < 16
    · simp only [h, decide_true]; cases w.testBit i <;> cases m.testBit i <;> cases o.testBit i <;> rfl
    · simp [h, bit_hi hw h, bit_hi hm h, bit_hi ho h]
  have e6 : maskN w m o &&& (65535 - m) = o &&& (65535 - m) := by
    apply Nat.eq_of_testBit_eq
    intro i
    simp only [Nat.testBit_and, maskN_bit hm, not16_bit hm]
    by_cases h : i < 16
    · simp only [h, decide_true]; cases w.testBit i <;> cases m.testBit i <;> cases o.testBit i <;> rfl
    · simp [h, bit_hi hw h, bit_hi hm h, bit_hi ho h]
  have emax : IntKind.u16.max = ((65535 : Nat) : Int) := by decide
  unfold bilgelaw13_CellsMask.f
  rw [mask_eq hw hm ho, Option.bind_some, show (65535 : Int) = ((65535 : Nat) : Int) by rfl, mask_eq hw (by decide) ho, Option.bind_some, e1, if_pos rfl, show (0 : Int) = ((0 : Nat) : Int) by rfl, mask_eq hw (by decide) ho, Option.bind_some, e2, if_pos rfl,
    mask_eq hx hm ho, Option.bind_some, e3, if_pos rfl, emax, bn_xor (by decide) hm, mask_eq hx hn hw, Option.bind_some, mask_eq ho hn hw, Option.bind_some, e4, if_pos rfl, bn_and hx hm, bn_and hw hm, e5, if_pos rfl, bn_andNot hx hm, bn_andNot ho hm, e6, if_pos rfl, hK _ (Nat.le_refl _)]
  rfl
end Go.Proofs.Ytmamkfnnoahcmaa.Pure
