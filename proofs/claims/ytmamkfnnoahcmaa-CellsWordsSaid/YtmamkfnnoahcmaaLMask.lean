/- A word by masks: what package cells' Mask comes to, on naturals. -/
import Derived.Test.YtmamkfnnoahcmaaLBase
import Derived.Test.YtmamkfnnoahcmaaPx3
namespace Go.Proofs.Ytmamkfnnoahcmaa.L
open Go.RowKit Go.Proofs.Ytmamkfnnoahcmaa.P Go.Proofs.YtmamkfnnoahcmaaW.PrintWords Go.Proofs.YtmamkfnnoahcmaaW.PrintLast Go.Proofs.YtmamkfnnoahcmaaW.PrintMore
set_option linter.unusedVariables false
set_option linter.unusedSimpArgs false

/-- Where m has a bit w's, else o's. -/
def maskN (w m o : Nat) : Nat := (w &&& m) ||| (o &&& (65535 - m))
theorem not16_bit {m : Nat} (h : m < 65536) (i : Nat) : (65535 - m).testBit i = (decide (i < 16) && !m.testBit i) := by
  have := Nat.testBit_two_pow_sub_succ (n := 16) (x := m) (by omega) i
  rw [show 2 ^ 16 - (m + 1) = 65535 - m by omega] at this
  exact this
theorem maskN_lt {w m o : Nat} (hw : w < 65536) (ho : o < 65536) : maskN w m o < 65536 := by
  unfold maskN
  exact Nat.or_lt_two_pow (n := 16) (Nat.lt_of_le_of_lt Nat.and_le_left hw) (Nat.lt_of_le_of_lt Nat.and_le_left ho)
theorem maskN_bit {w m o : Nat} (hm : m < 65536) (i : Nat) : (maskN w m o).testBit i = (w.testBit i && m.testBit i || o.testBit i && (decide (i < 16) && !m.testBit i)) := by
  unfold maskN
  rw [Nat.testBit_or, Nat.testBit_and, Nat.testBit_and, not16_bit hm]
theorem mask_eq {w m o : Nat} (hw : w < 65536) (hm : m < 65536) (ho : o < 65536) : cells_Mask.f (w : Int) (m : Int) (o : Int) = some ((maskN w m o : Nat) : Int) := by
  unfold cells_Mask.f
  rw [bn_and hw hm, bn_andNot ho hm, bn_or (Nat.lt_of_le_of_lt Nat.and_le_left hw) (Nat.lt_of_le_of_lt Nat.and_le_left ho)]
  rfl
theorem bit_hi {x : Nat} (h : x < 65536) {i : Nat} (hi : ¬ i < 16) : x.testBit i = false :=
  Nat.testBit_lt_two_pow (Nat.lt_of_lt_of_le h (Nat.pow_le_pow_right (n := 2) (by decide) (show 16 ≤ i by omega)))
end Go.Proofs.Ytmamkfnnoahcmaa.L
