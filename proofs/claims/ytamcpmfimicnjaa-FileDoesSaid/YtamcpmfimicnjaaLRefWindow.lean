/- What the reference's windows come to, and package window's Meets. -/
import Derived.Test.YtamcpmfimicnjaaLWindow
import Derived.Test.YtamcpmfimicnjaaPx7
import Derived.Test.YtamcpmfimicnjaaPx2
import Derived.Test.YtamcpmfimicnjaaPx3
import Derived.Test.YtamcpmfimicnjaaPx4
import Derived.Test.YtamcpmfimicnjaaPx8
import Derived.Test.YtamcpmfimicnjaaPx5
import Derived.Test.YtamcpmfimicnjaaPx0
namespace Go.Proofs.Ytamcpmfimicnjaa.L
open Go.RowKit Go.Proofs.Ytamcpmfimicnjaa.P Go.Proofs.YtamcpmfimicnjaaW.PrintWords Go.Proofs.YtamcpmfimicnjaaW.PrintLast
set_option linter.unusedVariables false
set_option linter.unusedSimpArgs false

theorem rright_eq (a b : Int) : bilgeref12_Right.f a b = some (decide (RightP a b)) := by
  unfold bilgeref12_Right.f
  by_cases h1 : a ≥ 0
  · by_cases h2 : a ≤ 65535
    · by_cases h3 : b ≥ 0
      · by_cases h4 : b ≤ 65536
        · rw [if_pos h1, if_pos h2, if_pos h3, if_pos h4, w64 (by omega)]
          congr 1
          simp only [decide_eq_decide]
          unfold RightP
          omega
        · rw [if_pos h1, if_pos h2, if_pos h3, if_neg h4]
          rw [decide_eq_false (fun h => h4 h.2.2.2.1)]
      · rw [if_pos h1, if_pos h2, if_neg h3]
        rw [decide_eq_false (fun h => h3 h.2.2.1)]
    · rw [if_pos h1, if_neg h2]
      rw [decide_eq_false (fun h => h2 h.2.1)]
  · rw [if_neg h1]
    rw [decide_eq_false (fun h => h1 h.1)]

theorem rhas_eq (a b x : Int) : bilgeref12_Has.f a b x = some (decide (HasP a b x)) := by
  unfold bilgeref12_Has.f
  rw [rright_eq, Option.bind_some]
  by_cases h : RightP a b
  · have h' := h
    unfold RightP at h'
    simp only [h, decide_true, if_true]
    by_cases hx2 : x ≥ a
    · rw [if_pos hx2, w64 (by omega)]
      congr 1
      simp only [decide_eq_decide]
      unfold HasP
      exact ⟨fun hh => ⟨h, hx2, hh⟩, fun hh => hh.2.2⟩
    · rw [if_neg hx2, decide_eq_false (fun hh => hx2 hh.2.1)]
  · simp only [h, decide_false, Bool.false_eq_true, if_false]
    rw [decide_eq_false (fun hh => h hh.1)]

theorem rholds_eq {a b x n : Int} (hx : I64 x) : bilgeref12_Holds.f a b x n = some (decide (HoldsP a b x n)) := by
  unfold bilgeref12_Holds.f
  by_cases h1 : n ≥ 1
  · by_cases h2 : n ≤ 65536
    · rw [if_pos h1, if_pos h2, rhas_eq, Option.bind_some]
      by_cases h : HasP a b x
      · have h' := h
        unfold HasP RightP at h'
        simp only [h, decide_true, if_true]
        rw [w64 (x := x + n) (by omega), w64 (by omega), rhas_eq, Option.bind_some]
        congr 1
        simp only [decide_eq_decide]
        unfold HoldsP HasP RightP
        omega
      · simp only [h, decide_false, Bool.false_eq_true, if_false]
        rw [decide_eq_false]
        unfold HasP at h
        unfold HoldsP
        intro hh
        exact h ⟨hh.1, by omega, by omega⟩
    · rw [if_pos h1, if_neg h2, decide_eq_false]
      unfold HoldsP RightP
      omega
  · rw [if_neg h1, decide_eq_false]
    unfold HoldsP
    omega

/-- So many places from one on that there may be. -/
def ofS (x n : Int) : Int × Int := if n < 1 ∨ x ≥ 65536 ∨ min (x + n) 65536 ≤ max x 0 then (0, 0) else (max x 0, min (x + n) 65536 - max x 0)
theorem of_eq (k : Nat) {x n : Int} (hx : I64 x) (hn : I64 n) : window_of.f (k + 2) x n = some (ofS x n) := by
  have mxe : mx x 0 = max x 0 := by unfold mx; omega
  unfold window_of.f
  by_cases h1 : n < 1
  · rw [if_pos h1]
    simp only [window_of.j0, if_true]
    unfold ofS
    rw [if_pos (.inl h1)]
  · rw [if_neg h1]
    by_cases h2 : x ≥ 65536
    · simp only [h2, decide_true, window_of.j0, if_true]
      unfold ofS
      rw [if_pos (.inr (.inl h2))]
    · simp only [h2, decide_false, window_of.j0, Bool.false_eq_true, if_false]
      by_cases h3 : x < 0
      · rw [if_pos h3]
        simp only [window_of.j1, if_true]
        rw [w64 (x := x + n) (by omega), mxe, show mn (x + n) 65536 = min (x + n) 65536 by unfold mn; omega]
        unfold ofS
        by_cases h4 : min (x + n) 65536 ≤ max x 0
        · rw [if_pos h4, if_pos (.inr (.inr h4))]
        · rw [if_neg h4, w64 (by omega), if_neg (by omega)]
      · rw [if_neg h3, w64 (x := 65536 - x) (by omega)]
        by_cases h5 : n < 65536 - x
        · simp only [h5, decide_true, window_of.j1, if_true]
          rw [w64 (x := x + n) (by omega), mxe, show mn (x + n) 65536 = min (x + n) 65536 by unfold mn; omega]
          unfold ofS
          rw [if_neg (by omega), w64 (by omega), if_neg (by omega)]
        · simp only [h5, decide_false, window_of.j1, Bool.false_eq_true, if_false]
          rw [mxe]
          unfold ofS
          rw [if_neg (by omega), w64 (by omega), if_neg (by omega)]
          congr 2
          omega

def MeetsP (a b x n : Int) : Prop := RightP a b ∧ 1 ≤ n ∧ 0 < b ∧ a < x + n ∧ x < a + b
instance (a b x n : Int) : Decidable (MeetsP a b x n) := by unfold MeetsP; infer_instance
theorem meets_eq (k : Nat) {a b x n : Int} (hx : I64 x) (hn : I64 n) : window_Meets.f (k + 2) a b x n = some (decide (MeetsP a b x n)) := by
  unfold window_Meets.f
  rw [of_eq k hx hn, Option.bind_some, cut_eq (k + 1), Option.bind_some]
  congr 1
  simp only [decide_eq_decide]
  unfold cutS MeetsP
  by_cases h : RightP a b ∧ RightP (ofS x n).1 (ofS x n).2 ∧ max a (ofS x n).1 < min (a + b) ((ofS x n).1 + (ofS x n).2)
  · rw [if_pos h]
    obtain ⟨h1, h2, h3⟩ := h
    have h1' := h1
    unfold RightP at h1'
    simp only
    unfold ofS at h3 ⊢
    by_cases h4 : n < 1 ∨ x ≥ 65536 ∨ min (x + n) 65536 ≤ max x 0
    · rw [if_pos h4] at h3 ⊢
      simp only at h3 ⊢
      omega
    · rw [if_neg h4] at h3 ⊢
      simp only at h3 ⊢
      constructor
      · intro _
        exact ⟨h1, by omega, by omega, by omega, by omega⟩
      · intro _; omega
  · rw [if_neg h]
    simp only
    constructor
    · intro hh; omega
    · rintro ⟨h1, h2, h3, h4, h5⟩
      exfalso
      apply h
      have h1' := h1
      unfold RightP at h1'
      have e : ofS x n = (max x 0, min (x + n) 65536 - max x 0) := by
        unfold ofS
        rw [if_neg (by omega)]
      rw [e]
      refine ⟨h1, ?_, ?_⟩
      · unfold RightP; simp only; omega
      · simp only; omega

theorem rmeets_loop {a b x n : Int} (hr : RightP a b) (hn : 1 ≤ n) (hn2 : I64 n) (hx : I64 x) (hx2 : x ≤ 65535) : ∀ (d k : Nat) (p : Int), a ≤ p → p ≤ a + b → a + b - p = d → d < k →
    bilgeref12_Meets.l0 k x n p a b = some (decide (p < a + b ∧ p < x + n ∧ x < a + b)) := by
  have hr' := hr
  unfold RightP at hr'
  intro d
  induction d with
  | zero =>
    intro k p h1 h2 h3 hk
    obtain ⟨k, rfl⟩ : ∃ m, k = m + 1 := ⟨k - 1, by omega⟩
    simp only [bilgeref12_Meets.l0]
    rw [w64 (by omega), if_neg (by omega), decide_eq_false (by omega)]
  | succ d ih =>
    intro k p h1 h2 h3 hk
    obtain ⟨k, rfl⟩ : ∃ m, k = m + 1 := ⟨k - 1, by omega⟩
    have hi := ih k (p + 1) (by omega) (by omega) (by omega) (by omega)
    have next : (decide (p + 1 < a + b ∧ p + 1 < x + n ∧ x < a + b) = decide (p < a + b ∧ p < x + n ∧ x < a + b)) ∨ (x ≤ p ∧ p < x + n) := by
      by_cases hc : x ≤ p ∧ p < x + n
      · exact .inr hc
      · left
        simp only [decide_eq_decide]
        omega
    simp only [bilgeref12_Meets.l0]
    rw [w64 (x := a + b) (by omega), if_pos (by omega), w64 (x := p + 1) (by omega)]
    by_cases c1 : p ≥ x
    · rw [if_pos c1]
      by_cases c2 : x ≥ 0
      · rw [if_pos c2, w64 (by omega)]
        by_cases c3 : p - x < n
        · rw [if_pos c3, decide_eq_true (by omega)]
        · rw [if_neg c3, if_neg (by omega), hi]
          rcases next with e | e
          · rw [e]
          · omega
      · rw [if_neg c2, if_pos (by omega), w64 (by omega)]
        by_cases c3 : x + n > p
        · rw [if_pos c3, decide_eq_true (by omega)]
        · rw [if_neg c3, hi]
          rcases next with e | e
          · rw [e]
          · omega
    · rw [if_neg c1, hi]
      rcases next with e | e
      · rw [e]
      · omega

theorem rmeets_eq {a b x n : Int} (hx : I64 x) (hn : I64 n) (k : Nat) (hk : 65540 ≤ k) : bilgeref12_Meets.f k a b x n = some (decide (MeetsP a b x n)) := by
  obtain ⟨k, rfl⟩ : ∃ m, k = m + 1 := ⟨k - 1, by omega⟩
  unfold bilgeref12_Meets.f
  rw [rright_eq, Option.bind_some]
  by_cases h : RightP a b
  · have h' := h
    unfold RightP at h'
    simp only [h, decide_true, if_true]
    by_cases h1 : n < 1
    · rw [if_pos h1]
      simp only [bilgeref12_Meets.j0, if_true]
      rw [decide_eq_false]
      unfold MeetsP; omega
    · rw [if_neg h1]
      by_cases h2 : x > 65535
      · simp only [h2, decide_true, bilgeref12_Meets.j0, if_true]
        rw [decide_eq_false]
        unfold MeetsP; omega
      · simp only [h2, decide_false, bilgeref12_Meets.j0, Bool.false_eq_true, if_false]
        rw [rmeets_loop h (by omega) hn hx (by omega) (a + b - a).toNat k a (by omega) (by omega) (by omega) (by omega)]
        congr 1
        simp only [decide_eq_decide]
        unfold MeetsP
        constructor
        · intro hh; exact ⟨h, by omega, by omega, by omega, by omega⟩
        · intro hh; omega
  · simp only [h, decide_false, Bool.false_eq_true, if_false, bilgeref12_Meets.j0, if_true]
    rw [decide_eq_false]
    exact fun hh => h hh.1

def acc (a c d p : Int) : Int × Int := if max a c < min p (c + d) then (max a c, min p (c + d) - max a c) else (0, 0)
end Go.Proofs.Ytamcpmfimicnjaa.L
