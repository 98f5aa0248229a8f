/- The pure statement of WhoBack: what is reported is read; what is read, reported again, is those bytes; any others are of a wrong form. -/
import Derived.Test.YtnaedmakkefdfaaPx8
import Derived.Test.YtnaedmakkefdfaaPx5
import Derived.Test.YtnaedmakkefdfaaLWho
import Derived.Test.YtnaedmakkefdfaaLSameY
namespace Go.Proofs.Ytnaedmakkefdfaa.Pure
open Go.RowKit Go.Proofs.Ytnaedmakkefdfaa.P Go.Proofs.YtnaedmakkefdfaaW.PrintWords Go.Proofs.YtnaedmakkefdfaaW.PrintLast Go.Proofs.Ytnaedmakkefdfaa.L
set_option maxRecDepth 100000 in
theorem sure22b : ∃ K, ∀ k, K ≤ k → bilgelaw22_sure.f k = some true :=
  Ev.of (g := fun k => bilgelaw22_sure.f k) (fun k => bilgelaw22_sure.mono k) (k := 20) (by decide +kernel)

theorem WhoBack : bilgelaw22_WhoBack.Pure := by
  intro id run b ⟨_, hi, hi8⟩ ⟨_, hb, hb8⟩
  replace hi : id.length * 1 ≤ 140737488351232 := hi
  replace hb : b.length * 1 ≤ 140737488351232 := hb
  obtain ⟨K, hK⟩ := sure22b
  refine ⟨K + 1000 + 1, ?_⟩
  unfold bilgelaw22_WhoBack.f
  rw [w64 (x := (id.length : Int) + (b.length : Int)) (by constructor <;> omega)]
  by_cases c0 : (id.length : Int) + (b.length : Int) > 600
  · rw [if_pos c0, hK _ (by omega)]; rfl
  · rw [if_neg c0]
    have tail : bilgelaw22_WhoBack.j0 (K + 1000 + 1) b = some true := by
      have hs : bilgelaw22_sure.f (K + 1000) = some true := hK _ (by omega)
      simp only [bilgelaw22_WhoBack.j0]
      have bad : who_Read.f b = some ([], false, 14) → ((who_Read.f b).bind fun bt245 => (if bt245.2.2 = 0 then ((who_Report.f bt245.1 bt245.2.1).bind fun bt250 => (if bt250.2 = 0 then ((bilgeref01_Bytes.f (K + 1000) bt250.1 b).bind fun t254 => (if t254 = true then ((bilgelaw22_sure.f (K + 1000)).bind fun t255 => (some t255)) else (none))) else (none))) else (if bt245.2.2 = 14 then (if (bt245.1.length : Int) = 0 then (if bt245.2.1 = true then (none) else ((bilgelaw22_sure.f (K + 1000)).bind fun t256 => (some t256))) else (none)) else (none)))) = some true := by
        intro e
        rw [e, Option.bind_some, hs]
        simp
      by_cases c1 : b.length < 2
      · exact bad (read_short c1)
      · obtain ⟨h, m, e, rfl⟩ : ∃ h m e, b = h :: (m ++ [e]) := by
          match b, c1 with
          | h :: t, c1 =>
            rcases List.eq_nil_or_concat t with rfl | ⟨m, e, rfl⟩
            · simp at c1
            · exact ⟨h, m, e, by simp⟩
          | [], c1 => simp at c1
        have hm : m.length ≤ 1000 := by simp at c0; omega
        have r := read_long (e := e) (m := m) (by omega) (u8_of (hb8 h (by simp)))
        by_cases c2 : m.length ≤ 240 ∧ h = (m.length : Int) + 1 ∧ (e = 0 ∨ e = 255)
        · rw [if_pos c2] at r
          have e1 : repS m (e == 255) = h :: (m ++ [e]) := by
            unfold repS
            rw [show ((m.length : Int) + 1) % 256 = h by omega]
            rcases c2.2.2 with rfl | rfl <;> simp
          rw [r, Option.bind_some, if_pos rfl, rep_eq (l := m) (by omega), if_pos c2.1, Option.bind_some, if_pos rfl, e1, bytes_eq (by simp; omega) (by simp; omega), Option.bind_some, decide_eq_true rfl, if_pos rfl, hs]
          rfl
        · rw [if_neg c2] at r
          exact bad r
    rw [rep_eq (by omega), Option.bind_some]
    by_cases c1 : id.length ≤ 240
    · rw [if_pos c1, if_pos rfl]
      unfold repS
      have r := read_long (h := ((id.length : Int) + 1) % 256) (e := if run = true then 255 else 0) (m := id) (by omega) (by constructor <;> omega)
      rw [if_pos (show id.length ≤ 240 ∧ ((id.length : Int) + 1) % 256 = (id.length : Int) + 1 ∧ ((if run = true then (255 : Int) else 0) = 0 ∨ (if run = true then (255 : Int) else 0) = 255) from ⟨c1, by omega, by cases run <;> simp⟩)] at r
      dsimp only
      rw [r, Option.bind_some, if_pos rfl, bytes_eq (a := id) (by omega) (by omega), Option.bind_some, decide_eq_true rfl, if_pos rfl, w64 (by omega), tail]
      cases run <;> simp <;> omega
    · rw [if_neg c1, if_neg (by simp), tail]
end Go.Proofs.Ytnaedmakkefdfaa.Pure
