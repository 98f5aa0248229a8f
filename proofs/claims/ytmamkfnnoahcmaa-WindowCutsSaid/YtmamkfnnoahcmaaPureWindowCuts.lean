/- The pure statement of WindowCuts: what three windows share does not depend on their order; a window shares itself with itself; what it holds it shares. For all windows. -/
import Derived.Test.YtmamkfnnoahcmaaPx9
import Derived.Test.YtmamkfnnoahcmaaPx6
import Derived.Test.YtmamkfnnoahcmaaLRefWindow
namespace Go.Proofs.Ytmamkfnnoahcmaa.Pure
open Go.RowKit Go.Proofs.Ytmamkfnnoahcmaa.P Go.Proofs.YtmamkfnnoahcmaaW.PrintWords Go.Proofs.YtmamkfnnoahcmaaW.PrintLast Go.Proofs.Ytmamkfnnoahcmaa.L

theorem sure12c : ∃ K, ∀ k, K ≤ k → bilgelaw12_sure.f k = some true :=
  Ev.of (g := fun k => bilgelaw12_sure.f k) (fun k => bilgelaw12_sure.mono k) (k := 20) (by decide +kernel)

theorem cut_right (a b c d : Int) : RightP (cutS a b c d).1 (cutS a b c d).2 := by
  unfold cutS
  split
  · rename_i h
    obtain ⟨h1, h2, h3⟩ := h
    unfold RightP at *
    simp only
    omega
  · unfold RightP; simp

theorem cut_assoc (a b c d e f : Int) : cutS (cutS a b c d).1 (cutS a b c d).2 e f = cutS a b (cutS c d e f).1 (cutS c d e f).2 := by
  by_cases h1 : RightP a b
  · by_cases h2 : RightP c d
    · by_cases h3 : RightP e f
      · have r1 := cut_right a b c d
        have r2 := cut_right c d e f
        have e1 : cutS (cutS a b c d).1 (cutS a b c d).2 e f = if max (cutS a b c d).1 e < min ((cutS a b c d).1 + (cutS a b c d).2) (e + f) then (max (cutS a b c d).1 e, min ((cutS a b c d).1 + (cutS a b c d).2) (e + f) - max (cutS a b c d).1 e) else (0, 0) := by
          generalize cutS a b c d = q at *
          unfold cutS
          simp only [r1, h3, true_and]
        have e2 : cutS a b (cutS c d e f).1 (cutS c d e f).2 = if max a (cutS c d e f).1 < min (a + b) ((cutS c d e f).1 + (cutS c d e f).2) then (max a (cutS c d e f).1, min (a + b) ((cutS c d e f).1 + (cutS c d e f).2) - max a (cutS c d e f).1) else (0, 0) := by
          generalize cutS c d e f = q at *
          unfold cutS
          simp only [r2, h1, true_and]
        rw [e1, e2]
        unfold cutS
        simp only [h1, h2, h3, true_and]
        unfold RightP at h1 h2 h3
        by_cases c1 : max a c < min (a + b) (c + d)
        · by_cases c2 : max c e < min (c + d) (e + f)
          · rw [if_pos c1, if_pos c2]
            simp only
            by_cases c3 : max (max a c) e < min (max a c + (min (a + b) (c + d) - max a c)) (e + f)
            · rw [if_pos c3, if_pos (by omega)]
              congr 1 <;> omega
            · rw [if_neg c3, if_neg (by omega)]
          · rw [if_pos c1, if_neg c2]
            simp only
            rw [if_neg (by omega), if_neg (by omega)]
        · by_cases c2 : max c e < min (c + d) (e + f)
          · rw [if_neg c1, if_pos c2]
            simp only
            rw [if_neg (by omega), if_neg (by omega)]
          · rw [if_neg c1, if_neg c2]
            simp only
            rw [if_neg (by omega), if_neg (by omega)]
      · have e1 : cutS c d e f = (0, 0) := by unfold cutS; rw [if_neg (fun h => h3 h.2.1)]
        have e2 : ∀ p q, cutS p q e f = (0, 0) := by intro p q; unfold cutS; rw [if_neg (fun h => h3 h.2.1)]
        have h1' := h1
        unfold RightP at h1'
        rw [e2, e1]
        unfold cutS
        rw [if_neg (by simp only; omega)]
    · have e1 : cutS c d e f = (0, 0) := by unfold cutS; rw [if_neg (fun h => h2 h.1)]
      have e2 : cutS a b c d = (0, 0) := by unfold cutS; rw [if_neg (fun h => h2 h.2.1)]
      have h1' := h1
      unfold RightP at h1'
      rw [e2, e1]
      unfold cutS
      rw [if_neg (by simp only; intro h; have := h.2.1; unfold RightP at this; omega), if_neg (by simp only; omega)]
  · have e1 : cutS a b c d = (0, 0) := by unfold cutS; rw [if_neg (fun h => h1 h.1)]
    have e2 : ∀ p q, cutS a b p q = (0, 0) := by intro p q; unfold cutS; rw [if_neg (fun h => h1 h.1)]
    rw [e1, e2]
    unfold cutS
    rw [if_neg (by simp only; intro h; have := h.2.1; unfold RightP at this; omega)]

theorem cut_comm (a b c d : Int) : cutS a b c d = cutS c d a b := by
  unfold cutS
  by_cases h1 : RightP a b <;> by_cases h2 : RightP c d <;> simp only [h1, h2, true_and, false_and, and_false, if_false]
  by_cases c1 : max a c < min (a + b) (c + d)
  · rw [if_pos c1, if_pos (by omega)]
    congr 1 <;> omega
  · rw [if_neg c1, if_neg (by omega)]

theorem WindowCuts : bilgelaw12_WindowCuts.Pure := by
  rintro ⟨a, b⟩ ⟨c, d⟩ ⟨e, f⟩ ⟨ha, hb⟩ ⟨hc, hd⟩ ⟨he, hf⟩
  simp only at ha hb hc hd he hf ⊢
  replace hb := i64_of hb
  replace hc := i64_of hc
  replace hd := i64_of hd
  obtain ⟨K, hK⟩ := sure12c
  refine ⟨K + 8, ?_⟩
  have hs5 : bilgelaw12_sure.f (K + 5) = some true := hK _ (by omega)
  have j2 : bilgelaw12_WindowCuts.j2 (K + 6) false a b c d = some true := by
    simp only [bilgelaw12_WindowCuts.j2, Bool.false_eq_true, if_false]
    rw [right_eq, Option.bind_some]
    by_cases h : RightP c d
    · simp only [h, decide_true, if_true]
      rw [meets_eq (K + 3) hc hd, Option.bind_some, cut_eq, Option.bind_some, if_pos]
      · rw [hs5]; rfl
      · simp only [beq_iff_eq, decide_eq_decide]
        have h' := h
        unfold RightP at h'
        unfold MeetsP cutS
        by_cases h2 : RightP a b
        · have h2' := h2
          unfold RightP at h2'
          simp only [h, h2, true_and]
          by_cases c1 : max a c < min (a + b) (c + d)
          · rw [if_pos c1]; simp only; omega
          · rw [if_neg c1]; simp only; omega
        · simp [h2]
    · simp only [h, decide_false, Bool.false_eq_true, if_false]
      rw [hs5]; rfl
  have j1 : bilgelaw12_WindowCuts.j1 (K + 7) false a b c d = some true := by
    simp only [bilgelaw12_WindowCuts.j1, Bool.false_eq_true, if_false]
    rw [right_eq, Option.bind_some]
    by_cases h : RightP c d
    · simp only [h, decide_true, if_true]
      rw [holds_eq, Option.bind_some]
      by_cases h2 : HoldsP a b c d
      · simp only [h2, decide_true, if_true]
        rw [cut_eq, Option.bind_some]
        have e1 : cutS a b c d = (c, d) := by
          unfold HoldsP at h2
          unfold cutS
          have h' := h
          have h3 := h2.1
          unfold RightP at h' h3
          rw [if_pos ⟨h2.1, h, by omega⟩]
          congr 1 <;> omega
        rw [e1]
        simpa using j2
      · simp only [h2, decide_false, Bool.false_eq_true, if_false]
        exact j2
    · simp only [h, decide_false, Bool.false_eq_true, if_false]
      exact j2
  have j0 : bilgelaw12_WindowCuts.j0 (K + 8) false a b c d = some true := by
    simp only [bilgelaw12_WindowCuts.j0, Bool.false_eq_true, if_false]
    rw [right_eq, Option.bind_some]
    by_cases h : RightP a b
    · simp only [h, decide_true, if_true]
      by_cases h2 : b > 0
      · rw [if_pos h2, cut_eq, Option.bind_some]
        have e1 : cutS a b a b = (a, b) := by
          unfold cutS
          rw [if_pos ⟨h, h, by omega⟩]
          congr 1 <;> omega
        rw [e1]
        simpa using j1
      · rw [if_neg h2]; exact j1
    · simp only [h, decide_false, Bool.false_eq_true, if_false]
      exact j1
  unfold bilgelaw12_WindowCuts.f
  rw [cut_eq, Option.bind_some, cut_eq, Option.bind_some, cut_eq, Option.bind_some, cut_eq, Option.bind_some, cut_assoc, if_neg (by simp), Option.bind_some, cut_eq, Option.bind_some,
    cut_comm e f, cut_assoc, if_neg (by simp)]
  rw [decide_eq_false]
  · exact j0
  · have mxe : ∀ p q : Int, mx p q = max p q := by intro p q; unfold mx; omega
    have mne : ∀ p q : Int, mn p q = min p q := by intro p q; unfold mn; omega
    rw [mxe, mxe, mne]
    rw [← cut_assoc]
    have key : ∀ p q r s : Int, (cutS p q r s).2 ≤ max q 0 ∧ (cutS p q r s).2 ≤ max s 0 := by
      intro p q r s
      unfold cutS
      split
      · rename_i hh
        obtain ⟨_, _, h3⟩ := hh
        simp only
        omega
      · simp only; omega
    have k1 := key a b c d
    have k2 := key (cutS a b c d).1 (cutS a b c d).2 e f
    have k3 := cut_right a b c d
    unfold RightP at k3
    omega
end Go.Proofs.Ytmamkfnnoahcmaa.Pure
