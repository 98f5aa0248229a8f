/- The pure statement of ValueTells: any number as registers, and the number that any registers are, are what the reference tells. -/
import Derived.Test.YtnaedmakkefdfaaPx4
import Derived.Test.YtnaedmakkefdfaaPx3
import Derived.Test.YtnaedmakkefdfaaLValue
import Derived.Test.YtnaedmakkefdfaaLSameW
namespace Go.Proofs.Ytnaedmakkefdfaa.Pure
open Go.RowKit Go.Proofs.Ytnaedmakkefdfaa.P Go.Proofs.YtnaedmakkefdfaaW.PrintWords Go.Proofs.YtnaedmakkefdfaaW.PrintLast Go.Proofs.Ytnaedmakkefdfaa.L
set_option maxRecDepth 100000 in
theorem sure40t : ∃ K, ∀ k, K ≤ k → bilgelaw40_sure.f k = some true :=
  Ev.of (g := fun k => bilgelaw40_sure.f k) (fun k => bilgelaw40_sure.mono k) (k := 40) (by decide +kernel)
theorem putS_len (n w o : Int) : (putS n w o).1.length ≤ 4 := by
  unfold putS
  by_cases h : 1 ≤ w ∧ w ≤ 4 ∧ 0 ≤ o ∧ o ≤ 3
  · rw [if_pos h]
    split
    · have := laidS_len (wds n w) o
      have := wds_len n (w := w) (by omega)
      simp only
      omega
    · simp
  · rw [if_neg h]; simp

theorem ValueTells : bilgelaw40_ValueTells.Pure := by
  rintro n l ⟨w, o⟩ hn hl ⟨hw, ho⟩
  simp only
  have hl0 : l.length * 2 ≤ 140737488351232 := hl.2.1
  have hu : ∀ x ∈ l, U16 x := fun x hx => u16_of (hl.2.2 x hx)
  obtain ⟨K, hK⟩ := sure40t
  refine ⟨K + 100, ?_⟩
  unfold bilgelaw40_ValueTells.f
  by_cases h1 : (l.length : Int) > 20
  · rw [if_pos h1, hK _ (by omega)]; rfl
  · have p1 := putS_len n w o
    rw [if_neg h1, show K + 100 = (K + 80) + 20 by omega, put_eq, Option.bind_some, show (K + 80) + 20 = (K + 79) + 21 by omega, rput_eq, Option.bind_some, show (K + 79) + 21 = (K + 80) + 20 by omega, get_eq hu, Option.bind_some, rget_eq hu (by omega), Option.bind_some, words_eq (by omega) (by omega), Option.bind_some, decide_eq_true rfl, if_pos rfl, if_pos rfl, if_pos rfl, if_pos rfl, hK _ (by omega)]
    rfl
end Go.Proofs.Ytnaedmakkefdfaa.Pure
