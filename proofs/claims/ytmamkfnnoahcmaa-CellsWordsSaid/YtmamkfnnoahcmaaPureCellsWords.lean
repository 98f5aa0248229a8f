/- The pure statement of CellsWords: cells of any table of words, read and written; words by masks, are what the reference tells. -/
import Derived.Test.YtmamkfnnoahcmaaPx7
import Derived.Test.YtmamkfnnoahcmaaPx3
import Derived.Test.YtmamkfnnoahcmaaLRefCells
import Derived.Test.YtmamkfnnoahcmaaLSameW
import Derived.Test.YtmamkfnnoahcmaaLRefMask
namespace Go.Proofs.Ytmamkfnnoahcmaa.Pure
open Go.RowKit Go.Proofs.Ytmamkfnnoahcmaa.P Go.Proofs.YtmamkfnnoahcmaaW.PrintWords Go.Proofs.YtmamkfnnoahcmaaW.PrintLast Go.Proofs.Ytmamkfnnoahcmaa.L
set_option maxRecDepth 100000 in
theorem sure13w : ∃ K, ∀ k, K ≤ k → bilgelaw13_sure.f k = some true :=
  Ev.of (g := fun k => bilgelaw13_sure.f k) (fun k => bilgelaw13_sure.mono k) (k := 20) (by decide +kernel)
theorem readS_lenW {a b x n : Int} {l : List Int} : (readS a b l x n).1.length ≤ l.length := by
  unfold readS
  split
  · split
    · simp only [List.length_take, List.length_drop]; omega
    · simp
  · simp
theorem writeS_lenW {a b x : Int} {l w : List Int} : (writeS a b l x w).1.length ≤ l.length + w.length := by
  unfold writeS
  split
  · split
    · simp only [List.length_append, List.length_take, List.length_drop]; omega
    · simp
  · simp

theorem CellsWords : bilgelaw13_CellsWords.Pure := by
  rintro ⟨⟨a, b⟩, l, w, x, n⟩ ⟨m0, m1, m2⟩ ⟨⟨_, _⟩, ⟨_, hl, _⟩, ⟨_, hw, _⟩, hx, hn⟩ ⟨q0, q1, q2⟩
  simp only at hx hn hl hw ⊢
  replace hx := i64_of hx
  replace hl : l.length * 2 ≤ 140737488351232 := hl
  replace hw : w.length * 2 ≤ 140737488351232 := hw
  replace q0 := u16_of q0
  replace q1 := u16_of q1
  replace q2 := u16_of q2
  simp only at q0 q1 q2 ⊢
  obtain ⟨n0, rfl⟩ := Int.eq_ofNat_of_zero_le q0.1
  obtain ⟨n1, rfl⟩ := Int.eq_ofNat_of_zero_le q1.1
  obtain ⟨n2, rfl⟩ := Int.eq_ofNat_of_zero_le q2.1
  have hn0 : n0 < 65536 := by omega
  have hn1 : n1 < 65536 := by omega
  have hn2 : n2 < 65536 := by omega
  obtain ⟨K, hK⟩ := sure13w
  refine ⟨K + 100000, ?_⟩
  unfold bilgelaw13_CellsWords.f
  have hs : bilgelaw13_sure.f (K + 100000) = some true := hK _ (by omega)
  by_cases h1 : wrap64 ((l.length : Int) + (w.length : Int)) > 2000
  · rw [if_pos h1, hs]; rfl
  · rw [if_neg h1]
    have e : wrap64 ((l.length : Int) + (w.length : Int)) = (l.length : Int) + (w.length : Int) := w64 (by constructor <;> omega)
    rw [e] at h1
    have r1 := readS_lenW (a := a) (b := b) (x := x) (n := n) (l := l)
    have r2 := writeS_lenW (a := a) (b := b) (x := x) (l := l) (w := w)
    rw [cwordsW, Option.bind_some, rwordsW l hx _ (by omega), Option.bind_some, csetW, Option.bind_some, rsetW l w hx _ (by omega), Option.bind_some, words_eq (a := (readS a b l x n).1) (by omega) (by omega), Option.bind_some, if_pos (by simp), if_pos rfl, words_eq (a := (writeS a b l x w).1) (by omega) (by omega), Option.bind_some, if_pos (by simp), if_pos rfl, mask_eq hn0 hn1 hn2, Option.bind_some, rmask_eq hn0 hn1 hn2 (by omega), Option.bind_some, if_pos rfl, hs]
    rfl
end Go.Proofs.Ytmamkfnnoahcmaa.Pure
