/- The pure statement of WindowSets: a window holds places just if it has each of them, meets them just if it has one; two share just the places that both have. For all windows and places. -/
import Derived.Test.YtmamkfnnoahcmaaPx8
import Derived.Test.YtmamkfnnoahcmaaPx6
import Derived.Test.YtmamkfnnoahcmaaLRefWindow
namespace Go.Proofs.Ytmamkfnnoahcmaa.Pure
open Go.RowKit Go.Proofs.Ytmamkfnnoahcmaa.P Go.Proofs.YtmamkfnnoahcmaaW.PrintWords Go.Proofs.YtmamkfnnoahcmaaW.PrintLast Go.Proofs.Ytmamkfnnoahcmaa.L

theorem sure12s : ∃ K, ∀ k, K ≤ k → bilgelaw12_sure.f k = some true :=
  Ev.of (g := fun k => bilgelaw12_sure.f k) (fun k => bilgelaw12_sure.mono k) (k := 20) (by decide +kernel)

theorem cut_right2 (a b c d : Int) : RightP (cutS a b c d).1 (cutS a b c d).2 := by
  unfold cutS
  split
  · rename_i h
    obtain ⟨h1, h2, h3⟩ := h
    unfold RightP at *
    simp only
    omega
  · unfold RightP; simp

theorem cut_has (a b c d y : Int) : HasP (cutS a b c d).1 (cutS a b c d).2 y ↔ HasP a b y ∧ HasP c d y := by
  have r := cut_right2 a b c d
  constructor
  · intro h
    obtain ⟨_, h2, h3⟩ := h
    unfold cutS at h2 h3
    split at h2
    · rename_i hh
      rw [if_pos hh] at h3
      simp only at h2 h3
      exact ⟨⟨hh.1, by omega, by omega⟩, hh.2.1, by omega, by omega⟩
    · rename_i hh
      rw [if_neg hh] at h3
      simp only at h2 h3
      omega
  · rintro ⟨⟨h1, h2, h3⟩, h4, h5, h6⟩
    refine ⟨r, ?_⟩
    unfold cutS
    rw [if_pos ⟨h1, h4, by omega⟩]
    simp only
    omega

theorem cut_comm2 (a b c d : Int) : cutS a b c d = cutS c d a b := by
  unfold cutS
  by_cases h1 : RightP a b <;> by_cases h2 : RightP c d <;> simp only [h1, h2, true_and, false_and, and_false, if_false]
  by_cases c1 : max a c < min (a + b) (c + d)
  · rw [if_pos c1, if_pos (by omega)]
    congr 1 <;> omega
  · rw [if_neg c1, if_neg (by omega)]

def allB (a b x n : Int) (j : Int) : Bool := decide (0 < n ∧ (j = 0 ∨ (RightP a b ∧ a ≤ x ∧ x + j ≤ a + b)))
def someB (a b x : Int) (j : Int) : Bool := decide (0 < j ∧ RightP a b ∧ 0 < b ∧ a < x + j ∧ x < a + b)

theorem sets_l1 {a b c d x n : Int} {s : Nat} (hx0 : 0 ≤ x) (hx1 : x ≤ 65535) (hn0 : 0 ≤ n) (hn1 : n ≤ 299) (hs : ∀ k, s ≤ k → bilgelaw12_sure.f k = some true) : ∀ (m k : Nat) (i : Int), -2 ≤ i → i ≤ n → n - i = m → m + s + 8 ≤ k →
    bilgelaw12_WindowSets.l1 k x n (decide (HoldsP a b x n)) (decide (MeetsP a b x n)) i a b c d (cutS a b c d).1 (cutS a b c d).2 = some true := by
  intro m
  induction m with
  | zero =>
    intro k i h1 h2 h3 hk
    obtain ⟨k, rfl⟩ : ∃ q, k = q + 3 := ⟨k - 3, by omega⟩
    simp only [bilgelaw12_WindowSets.l1]
    rw [if_neg (by omega), holds_eq, Option.bind_some, if_pos (by simp), meets_eq k (by omega) (by omega), Option.bind_some, if_pos (by simp), cut_eq, Option.bind_some, cut_comm2 c d a b, if_pos (by simp), right_eq, Option.bind_some]
    simp only [cut_right2, decide_true, if_true]
    rw [hs _ (by omega)]
    rfl
  | succ m ih =>
    intro k i h1 h2 h3 hk
    obtain ⟨k, rfl⟩ : ∃ q, k = q + 1 := ⟨k - 1, by omega⟩
    have hi := ih k (i + 1) (by omega) (by omega) (by omega) (by omega)
    simp only [bilgelaw12_WindowSets.l1]
    rw [if_pos (by omega), w64 (x := x + i) (by omega), w64 (x := i + 1) (by omega), has_eq (by omega), Option.bind_some, has_eq (by omega), Option.bind_some]
    by_cases ha : HasP a b (x + i)
    · simp only [ha, decide_true, if_true]
      rw [has_eq (by omega), Option.bind_some, if_neg]
      · exact hi
      · simp only [cut_has, ha, true_and, bne_self_eq_false, Bool.false_eq_true, not_false_eq_true]
    · simp only [ha, decide_false, Bool.false_eq_true, if_false]
      rw [if_neg]
      · exact hi
      · simp [cut_has, ha]

theorem sets_l0 {a b c d x n : Int} {s : Nat} (hx0 : 0 ≤ x) (hx1 : x ≤ 65535) (hn0 : 0 ≤ n) (hn1 : n ≤ 299) (hs : ∀ k, s ≤ k → bilgelaw12_sure.f k = some true) : ∀ (m k : Nat) (i : Int), 0 ≤ i → i ≤ n → n - i = m → m + s + 400 ≤ k →
    bilgelaw12_WindowSets.l0 k x n (allB a b x n i) (someB a b x i) i a b c d = some true := by
  intro m
  induction m with
  | zero =>
    intro k i h1 h2 h3 hk
    obtain ⟨k, rfl⟩ : ∃ q, k = q + 2 := ⟨k - 2, by omega⟩
    simp only [bilgelaw12_WindowSets.l0]
    rw [if_neg (by omega), cut_eq, Option.bind_some]
    have e1 : allB a b x n i = decide (HoldsP a b x n) := by
      unfold allB
      simp only [decide_eq_decide]
      unfold HoldsP
      rw [show i = n by omega]
      constructor
      · rintro ⟨h0, h | ⟨h1, h2, h3⟩⟩
        · omega
        · exact ⟨h1, by omega, h2, h3⟩
      · rintro ⟨h1, h2, h3, h4⟩
        exact ⟨by omega, .inr ⟨h1, h3, h4⟩⟩
    have e2 : someB a b x i = decide (MeetsP a b x n) := by
      unfold someB
      simp only [decide_eq_decide]
      unfold MeetsP
      rw [show i = n by omega]
      constructor
      · rintro ⟨h0, h1, h2, h3, h4⟩
        exact ⟨h1, by omega, h2, h3, h4⟩
      · rintro ⟨h1, h2, h3, h4, h5⟩
        exact ⟨by omega, h1, h3, h4, h5⟩
    rw [e1, e2]
    exact sets_l1 hx0 hx1 hn0 hn1 hs (n - (-2)).toNat _ (-2) (by omega) (by omega) (by omega) (by omega)
  | succ m ih =>
    intro k i h1 h2 h3 hk
    obtain ⟨k, rfl⟩ : ∃ q, k = q + 1 := ⟨k - 1, by omega⟩
    have hi := ih k (i + 1) (by omega) (by omega) (by omega) (by omega)
    simp only [bilgelaw12_WindowSets.l0]
    rw [if_pos (by omega), w64 (x := x + i) (by omega), w64 (x := i + 1) (by omega), has_eq (by omega), Option.bind_some]
    have ea : allB a b x n (i + 1) = (allB a b x n i && decide (HasP a b (x + i))) := by
      rw [Bool.eq_iff_iff]
      unfold allB
      simp only [Bool.and_eq_true, decide_eq_true_eq]
      unfold HasP
      constructor
      · rintro ⟨h0, h | ⟨q1, q2, q3⟩⟩
        · omega
        · exact ⟨⟨h0, .inr ⟨q1, q2, by omega⟩⟩, q1, by omega, by omega⟩
      · rintro ⟨⟨h0, h | ⟨q1, q2, q3⟩⟩, p1, p2, p3⟩
        · exact ⟨h0, .inr ⟨p1, by omega, by omega⟩⟩
        · exact ⟨h0, .inr ⟨p1, q2, by omega⟩⟩
    have es : someB a b x (i + 1) = (someB a b x i || decide (HasP a b (x + i))) := by
      rw [Bool.eq_iff_iff]
      unfold someB
      simp only [Bool.or_eq_true, decide_eq_true_eq]
      unfold HasP
      constructor
      · rintro ⟨h0, q1, q2, q3, q4⟩
        by_cases hc : a ≤ x + i ∧ x + i < a + b
        · exact .inr ⟨q1, hc.1, hc.2⟩
        · exact .inl ⟨by omega, q1, q2, by omega, q4⟩
      · rintro (⟨h0, q1, q2, q3, q4⟩ | ⟨p1, p2, p3⟩)
        · exact ⟨by omega, q1, q2, by omega, q4⟩
        · exact ⟨by omega, p1, by omega, by omega, by omega⟩
    rw [ea, es] at hi
    cases hA : allB a b x n i <;> cases hS : someB a b x i <;> simp only [hA, hS, Bool.true_and, Bool.false_and, Bool.true_or, Bool.false_or] at hi <;> simpa using hi

theorem WindowSets : bilgelaw12_WindowSets.Pure := by
  rintro ⟨a, b⟩ ⟨c, d⟩ ⟨x, n⟩ ⟨ha, hb⟩ ⟨hc, hd⟩ ⟨hx, hn⟩
  simp only at ha hb hc hd hx hn ⊢
  have hx' : 0 ≤ x ∧ x ≤ 65535 := by simpa [Lit.wf, IntKind.min, IntKind.max, IntKind.signed, IntKind.bits] using hx
  have hn' : 0 ≤ n ∧ n ≤ 65535 := by simpa [Lit.wf, IntKind.min, IntKind.max, IntKind.signed, IntKind.bits] using hn
  obtain ⟨K, hK⟩ := sure12s
  refine ⟨K + 1000, ?_⟩
  unfold bilgelaw12_WindowSets.f
  rw [w64 (x := x) (by omega), w64 (x := n) (by omega)]
  have e : Int.tmod n 300 = n % 300 := Int.tmod_eq_emod_of_nonneg hn'.1
  rw [e]
  have h := sets_l0 (a := a) (b := b) (c := c) (d := d) hx'.1 hx'.2 (n := n % 300) (by omega) (by omega) hK (n % 300).toNat (K + 1000) 0 (by omega) (by omega) (by omega) (by omega)
  have e1 : allB a b x (n % 300) 0 = decide (n % 300 > 0) := by
    unfold allB
    simp
  have e2 : someB a b x 0 = false := by
    unfold someB
    simp
  rw [e1, e2] at h
  exact h
end Go.Proofs.Ytmamkfnnoahcmaa.Pure
