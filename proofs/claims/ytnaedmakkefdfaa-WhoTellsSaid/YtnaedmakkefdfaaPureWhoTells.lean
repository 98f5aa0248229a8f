/- The pure statement of WhoTells: the status of any tables, and what is said of anybody, are what the reference tells. -/
import Derived.Test.YtnaedmakkefdfaaPx7
import Derived.Test.YtnaedmakkefdfaaPx5
import Derived.Test.YtnaedmakkefdfaaLWho
import Derived.Test.YtnaedmakkefdfaaLSameY
namespace Go.Proofs.Ytnaedmakkefdfaa.Pure
open Go.RowKit Go.Proofs.Ytnaedmakkefdfaa.P Go.Proofs.YtnaedmakkefdfaaW.PrintWords Go.Proofs.YtnaedmakkefdfaaW.PrintLast Go.Proofs.Ytnaedmakkefdfaa.L
set_option maxRecDepth 100000 in
theorem sure22t : ∃ K, ∀ k, K ≤ k → bilgelaw22_sure.f k = some true :=
  Ev.of (g := fun k => bilgelaw22_sure.f k) (fun k => bilgelaw22_sure.mono k) (k := 20) (by decide +kernel)

theorem WhoTells : bilgelaw22_WhoTells.Pure := by
  rintro ⟨⟨⟨a0, a1⟩, ⟨a2, a3⟩, ⟨a4, a5⟩, ⟨a6, a7⟩, ⟨a8, a9⟩⟩, l1, l2, l3, l4⟩ x id ⟨_, ⟨_, h1, _⟩, ⟨_, h2, _⟩, ⟨_, h3, _⟩, ⟨_, h4, _⟩⟩ _ _
  simp only at h1 h2 h3 h4 ⊢
  obtain ⟨K, hK⟩ := sure22t
  refine ⟨K + 1000 + 17 + 1, ?_⟩
  unfold bilgelaw22_WhoTells.f
  have hs : bilgelaw22_sure.f (K + 1000 + 17) = some true := hK _ (by omega)
  rw [few_eq _ _ _ _ _ _ _ _ _ _ (by omega) (by omega) (by omega) (by omega), Option.bind_some]
  by_cases c1 : l1.length + l2.length + l3.length + l4.length ≤ 4000
  · rw [decide_eq_true c1, if_pos rfl]
    by_cases c2 : (id.length : Int) > 600
    · simp only [bilgelaw22_WhoTells.j0, c2, decide_true, if_true]
      rw [hs]; rfl
    · simp only [bilgelaw22_WhoTells.j0, c2, decide_false, Bool.false_eq_true, if_false]
      rw [rep_eq (by omega), Option.bind_some, rrep_eq (by omega), Option.bind_some, stat_eq (by omega), Option.bind_some, rstat_eq, Option.bind_some, if_pos rfl]
      by_cases c3 : id.length ≤ 240
      · simp only [c3, if_true]
        rw [bytes_eq (by simp [repS]; omega) (by simp [repS]; omega), Option.bind_some, decide_eq_true rfl, if_pos rfl, if_pos (by simp), hs]; rfl
      · simp only [c3, if_false, Bool.false_eq_true]
        rw [bytes_eq (by simp) (by simp), Option.bind_some, decide_eq_true rfl, if_pos rfl, if_pos (by simp), if_pos trivial, hs]; rfl
  · rw [decide_eq_false c1, if_neg (by simp)]
    simp only [bilgelaw22_WhoTells.j0, if_true]
    rw [hs]; rfl
end Go.Proofs.Ytnaedmakkefdfaa.Pure
