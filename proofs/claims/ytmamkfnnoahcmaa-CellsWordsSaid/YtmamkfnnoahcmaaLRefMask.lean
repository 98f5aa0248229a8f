/- What the reference's Mask comes to. -/
import Derived.Test.YtmamkfnnoahcmaaLMask
import Derived.Test.YtmamkfnnoahcmaaPx6
namespace Go.Proofs.Ytmamkfnnoahcmaa.L
open Go.RowKit Go.Proofs.Ytmamkfnnoahcmaa.P Go.Proofs.YtmamkfnnoahcmaaW.PrintWords Go.Proofs.YtmamkfnnoahcmaaW.PrintLast Go.Proofs.YtmamkfnnoahcmaaW.PrintMore
set_option linter.unusedVariables false
set_option linter.unusedSimpArgs false

theorem bit_half (x k : Nat) : x / 2 ^ k % 2 = (x.testBit k).toNat := by
  rw [Nat.testBit_eq_decide_div_mod_eq]
  by_cases h : x / 2 ^ k % 2 = 1
  · simp [h]
  · simp [h]; omega
theorem mod_step (x k : Nat) : x % 2 ^ k + (x.testBit k).toNat * 2 ^ k = x % 2 ^ (k + 1) := by
  rw [Nat.mod_pow_succ, bit_half, Nat.mul_comm]
theorem rmask_loop {w m o : Nat} (hw : w < 65536) (hm : m < 65536) (ho : o < 65536) : ∀ (d k i : Nat), i + d = 16 → d < k → bilgeref13_Mask.l0 k (w : Int) (m : Int) (o : Int) ((maskN w m o % 2 ^ i : Nat) : Int) (i : Int) = some ((maskN w m o : Nat) : Int) := by
  intro d
  induction d with
  | zero =>
    intro k i h1 hk
    obtain ⟨k, rfl⟩ : ∃ q, k = q + 1 := ⟨k - 1, by omega⟩
    simp only [bilgeref13_Mask.l0]
    have := maskN_lt (m := m) hw ho
    rw [if_neg (by omega), show i = 16 by omega, Nat.mod_eq_of_lt (by omega)]
  | succ d ih =>
    intro k i h1 hk
    obtain ⟨k, rfl⟩ : ∃ q, k = q + 1 := ⟨k - 1, by omega⟩
    have hi := ih k (i + 1) (by omega) (by omega)
    simp only [bilgeref13_Mask.l0]
    have hp : 2 ^ i ≤ 2 ^ 15 := Nat.pow_le_pow_right (by decide) (by omega)
    have hp0 : 0 < 2 ^ i := Nat.two_pow_pos i
    have sh : ∀ x : Nat, Int.tmod (shr .u16 (x : Int) (i : Int)) 2 = (((x.testBit i).toNat : Nat) : Int) := by
      intro x
      unfold shr
      rw [Int.toNat_natCast, show min i IntKind.u16.bits = i by simp only [IntKind.bits]; omega]
      have e : ((x : Int) / 2 ^ i) = ((x / 2 ^ i : Nat) : Int) := by simp
      rw [e, ← bit_half, Int.tmod_eq_emod_of_nonneg (Int.natCast_nonneg _)]
      rfl
    have step : ∀ q : Nat, q = ((maskN w m o).testBit i).toNat → IntKind.u16.wrap (((maskN w m o % 2 ^ i : Nat) : Int) + shl .u16 (q : Int) (i : Int)) = ((maskN w m o % 2 ^ (i + 1) : Nat) : Int) := by
      intro q hq
      unfold shl
      rw [Int.toNat_natCast, show min i IntKind.u16.bits = i by simp only [IntKind.bits]; omega]
      have hq1 : q ≤ 1 := by rw [hq]; cases (maskN w m o).testBit i <;> simp
      have e : ((q : Int) * 2 ^ i) = ((q * 2 ^ i : Nat) : Int) := by simp
      have hb : q * 2 ^ i ≤ 2 ^ i := by
        calc q * 2 ^ i ≤ 1 * 2 ^ i := Nat.mul_le_mul_right _ hq1
          _ = 2 ^ i := Nat.one_mul _
      have hm1 : maskN w m o % 2 ^ i < 2 ^ i := Nat.mod_lt _ hp0
      have key : maskN w m o % 2 ^ i + q * 2 ^ i = maskN w m o % 2 ^ (i + 1) := by rw [hq]; exact mod_step _ _
      rw [e, u16w_id (n := ((q * 2 ^ i : Nat) : Int)) (by constructor <;> omega), ← key]
      have : (((maskN w m o % 2 ^ i : Nat) : Int) + ((q * 2 ^ i : Nat) : Int)) = ((maskN w m o % 2 ^ i + q * 2 ^ i : Nat) : Int) := by omega
      rw [this, u16w_id]
      constructor <;> omega
    have h16 : decide (i < 16) = true := by simp; omega
    rw [if_pos (by omega), if_pos (by omega), sh m, sh w, sh o, w64 (by constructor <;> omega), show (i : Int) + 1 = ((i + 1 : Nat) : Int) by omega]
    by_cases hb : m.testBit i = true
    · rw [if_pos (by simp [hb]), step _ (by rw [maskN_bit hm]; simp [hb])]
      exact hi
    · have hb' : m.testBit i = false := by simpa using hb
      rw [if_neg (by simp [hb']), step _ (by rw [maskN_bit hm]; simp [hb', h16])]
      exact hi
theorem rmask_eq {w m o : Nat} (hw : w < 65536) (hm : m < 65536) (ho : o < 65536) {k : Nat} (hk : 16 < k) : bilgeref13_Mask.f k (w : Int) (m : Int) (o : Int) = some ((maskN w m o : Nat) : Int) := by
  have h := rmask_loop hw hm ho 16 k 0 (by omega) hk
  unfold bilgeref13_Mask.f
  rw [Nat.pow_zero, Nat.mod_one] at h
  exact h
end Go.Proofs.Ytmamkfnnoahcmaa.L
