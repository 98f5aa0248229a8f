/- What the reference's comparisons of bytes and of words come to: equality of lists. -/
import Derived.Test.YtedfbemifigoeaaLBase
import Derived.Test.YtedfbemifigoeaaPx4
import Derived.Test.YtedfbemifigoeaaPx3
namespace Go.Proofs.Ytedfbemifigoeaa.L
open Go.RowKit Go.Proofs.Ytedfbemifigoeaa.P Go.Proofs.YtedfbemifigoeaaW.PrintWords Go.Proofs.YtedfbemifigoeaaW.PrintLast
set_option linter.unusedVariables false
set_option linter.unusedSimpArgs false

theorem bytes_loop {a b : List Int} (hl : a.length = b.length) (hb : a.length ≤ 4611686018427387904) : ∀ (d k : Nat) (i : Int), 0 ≤ i → (a.length : Int) - i = d → d < k → bilgeref01_Bytes.l0 k a b i = some (decide (a.drop i.toNat = b.drop i.toNat)) := by
  intro d
  induction d with
  | zero =>
    intro k i h0 h1 hk
    obtain ⟨k, rfl⟩ : ∃ m, k = m + 1 := ⟨k - 1, by omega⟩
    simp only [bilgeref01_Bytes.l0]
    rw [if_neg (by omega), List.drop_eq_nil_of_le (by omega), List.drop_eq_nil_of_le (by omega)]
    simp
  | succ d ih =>
    intro k i h0 h1 hk
    obtain ⟨k, rfl⟩ : ∃ m, k = m + 1 := ⟨k - 1, by omega⟩
    simp only [bilgeref01_Bytes.l0]
    rw [if_pos (by omega), if_pos h0, if_pos (by omega), w64 (by omega), rd_drop h0 (by omega), rd_drop (l := b) h0 (by omega)]
    by_cases h : rd a i = rd b i
    · rw [if_pos h, ih k (i + 1) (by omega) (by omega) (by omega), h, show (i + 1).toNat = i.toNat + 1 by omega]
      congr 1
      simp
    · rw [if_neg h]
      simp [h]
theorem bytes_eq {a b : List Int} (hb : a.length ≤ 4611686018427387904) {k : Nat} (hk : a.length < k) : bilgeref01_Bytes.f k a b = some (decide (a = b)) := by
  unfold bilgeref01_Bytes.f
  by_cases h : (a.length : Int) = (b.length : Int)
  · rw [if_pos h, bytes_loop (by omega) hb a.length k 0 (by omega) (by omega) hk]
    simp
  · rw [if_neg h]
    have : a ≠ b := fun e => h (by rw [e])
    simp [this]

theorem words_loop {a b : List Int} (hl : a.length = b.length) (hb : a.length ≤ 4611686018427387904) : ∀ (d k : Nat) (i : Int), 0 ≤ i → (a.length : Int) - i = d → d < k → bilgeref01_Words.l0 k a b i = some (decide (a.drop i.toNat = b.drop i.toNat)) := by
  intro d
  induction d with
  | zero =>
    intro k i h0 h1 hk
    obtain ⟨k, rfl⟩ : ∃ m, k = m + 1 := ⟨k - 1, by omega⟩
    simp only [bilgeref01_Words.l0]
    rw [if_neg (by omega), List.drop_eq_nil_of_le (by omega), List.drop_eq_nil_of_le (by omega)]
    simp
  | succ d ih =>
    intro k i h0 h1 hk
    obtain ⟨k, rfl⟩ : ∃ m, k = m + 1 := ⟨k - 1, by omega⟩
    simp only [bilgeref01_Words.l0]
    rw [if_pos (by omega), if_pos h0, if_pos (by omega), w64 (by omega), rd_drop h0 (by omega), rd_drop (l := b) h0 (by omega)]
    by_cases h : rd a i = rd b i
    · rw [if_pos h, ih k (i + 1) (by omega) (by omega) (by omega), h, show (i + 1).toNat = i.toNat + 1 by omega]
      congr 1
      simp
    · rw [if_neg h]
      simp [h]
theorem words_eq {a b : List Int} (hb : a.length ≤ 4611686018427387904) {k : Nat} (hk : a.length < k) : bilgeref01_Words.f k a b = some (decide (a = b)) := by
  unfold bilgeref01_Words.f
  by_cases h : (a.length : Int) = (b.length : Int)
  · rw [if_pos h, words_loop (by omega) hb a.length k 0 (by omega) (by omega) hk]
    simp
  · rw [if_neg h]
    have : a ≠ b := fun e => h (by rw [e])
    simp [this]
end Go.Proofs.Ytedfbemifigoeaa.L
