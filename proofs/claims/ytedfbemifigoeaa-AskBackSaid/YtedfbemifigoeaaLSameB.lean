/- What the reference's comparison of bits comes to: equality of lists. -/
import Derived.Test.YtedfbemifigoeaaLBase
import Derived.Test.YtedfbemifigoeaaPx3
namespace Go.Proofs.Ytedfbemifigoeaa.L
open Go.RowKit Go.Proofs.Ytedfbemifigoeaa.P Go.Proofs.YtedfbemifigoeaaW.PrintWords Go.Proofs.YtedfbemifigoeaaW.PrintLast
set_option linter.unusedVariables false
set_option linter.unusedSimpArgs false

theorem same_loop {a b : List Bool} (hl : a.length = b.length) (hb : a.length ≤ 4611686018427387904) : ∀ (d k : Nat) (i : Int), 0 ≤ i → (a.length : Int) - i = d → d < k → bilgeref02_Same.l0 k a b i = some (decide (a.drop i.toNat = b.drop i.toNat)) := by
  intro d
  induction d with
  | zero =>
    intro k i h0 h1 hk
    obtain ⟨k, rfl⟩ : ∃ m, k = m + 1 := ⟨k - 1, by omega⟩
    simp only [bilgeref02_Same.l0]
    rw [if_neg (by omega), List.drop_eq_nil_of_le (by omega), List.drop_eq_nil_of_le (by omega)]
    simp
  | succ d ih =>
    intro k i h0 h1 hk
    obtain ⟨k, rfl⟩ : ∃ m, k = m + 1 := ⟨k - 1, by omega⟩
    simp only [bilgeref02_Same.l0]
    rw [if_pos (by omega), if_pos h0, if_pos (by omega), w64 (by omega), rdOf_drop (d := false) h0 (by omega), rdOf_drop (d := false) (l := b) h0 (by omega)]
    by_cases h : rdOf false a i = rdOf false b i
    · rw [if_neg (by simp [h]), ih k (i + 1) (by omega) (by omega) (by omega), h, show (i + 1).toNat = i.toNat + 1 by omega]
      congr 1
      simp
    · rw [if_pos (by simpa using h)]
      simp [h]
theorem same_eq {a b : List Bool} (hb : a.length ≤ 4611686018427387904) {k : Nat} (hk : a.length < k) : bilgeref02_Same.f k a b = some (decide (a = b)) := by
  unfold bilgeref02_Same.f
  by_cases h : (a.length : Int) = (b.length : Int)
  · rw [if_pos h, same_loop (by omega) hb a.length k 0 (by omega) (by omega) hk]
    simp
  · rw [if_neg h]
    have : a ≠ b := fun e => h (by rw [e])
    simp [this]
end Go.Proofs.Ytedfbemifigoeaa.L
