/- The pure statement of WindowTells: for every two windows and places, what package window tells is what the reference tells. No condition beyond the numbers' kinds. -/
import Derived.Test.YtmamkfnnoahcmaaPx7
import Derived.Test.YtmamkfnnoahcmaaLRefWindow
namespace Go.Proofs.Ytmamkfnnoahcmaa.Pure
open Go.RowKit Go.Proofs.Ytmamkfnnoahcmaa.P Go.Proofs.YtmamkfnnoahcmaaW.PrintWords Go.Proofs.YtmamkfnnoahcmaaW.PrintLast Go.Proofs.Ytmamkfnnoahcmaa.L

theorem sure12 : ∃ K, ∀ k, K ≤ k → bilgelaw12_sure.f k = some true :=
  Ev.of (g := fun k => bilgelaw12_sure.f k) (fun k => bilgelaw12_sure.mono k) (k := 20) (by decide +kernel)

theorem WindowTells : bilgelaw12_WindowTells.Pure := by
  rintro ⟨a, b⟩ ⟨c, d⟩ ⟨x, n⟩ ⟨ha, hb⟩ ⟨hc, hd⟩ ⟨hx, hn⟩
  simp only at ha hb hc hd hx hn ⊢
  replace hx := i64_of hx
  replace hn := i64_of hn
  obtain ⟨K, hK⟩ := sure12
  refine ⟨K + 131082, ?_⟩
  have hs : bilgelaw12_sure.f (K + 131081) = some true := hK _ (by omega)
  unfold bilgelaw12_WindowTells.f
  rw [place_eq hx, Option.bind_some, rhas_eq, Option.bind_some]
  have fin : bilgelaw12_WindowTells.j0 (K + 131082) x n (decide (HasP a b x)) false a b c d = some true := by
    simp only [bilgelaw12_WindowTells.j0, Bool.false_eq_true, if_false]
    rw [right_eq, Option.bind_some, rright_eq, Option.bind_some, has_eq hx, Option.bind_some, holds_eq, Option.bind_some, rholds_eq hx, Option.bind_some, meets_eq (K + 131079) hx hn, Option.bind_some,
      rmeets_eq hx hn _ (by omega), Option.bind_some, cut_eq, Option.bind_some, rcut_eq a b c d _ (by omega), Option.bind_some, hs]
    simp
  by_cases h : HasP a b x
  · rw [if_pos h]
    have h' := h
    unfold HasP RightP at h'
    simp only [h, decide_true] at fin ⊢
    rw [if_neg (by decide), if_pos trivial, w64 (by omega), if_pos rfl]
    exact fin
  · rw [if_neg h]
    simp only [h, decide_false] at fin ⊢
    rw [if_neg (by decide), if_neg (by decide)]
    exact fin
end Go.Proofs.Ytmamkfnnoahcmaa.Pure
