/- The pure statement of CellsBits: cells of any table of bits, read and written, are what the reference tells. -/
import Derived.Test.YtmamkfnnoahcmaaPx5
import Derived.Test.YtmamkfnnoahcmaaPx3
import Derived.Test.YtmamkfnnoahcmaaLRefCells
import Derived.Test.YtmamkfnnoahcmaaLSameB
namespace Go.Proofs.Ytmamkfnnoahcmaa.Pure
open Go.RowKit Go.Proofs.Ytmamkfnnoahcmaa.P Go.Proofs.YtmamkfnnoahcmaaW.PrintWords Go.Proofs.YtmamkfnnoahcmaaW.PrintLast Go.Proofs.Ytmamkfnnoahcmaa.L
set_option maxRecDepth 100000 in
theorem sure13b : ∃ K, ∀ k, K ≤ k → bilgelaw13_sure.f k = some true :=
  Ev.of (g := fun k => bilgelaw13_sure.f k) (fun k => bilgelaw13_sure.mono k) (k := 20) (by decide +kernel)
theorem readS_lenB {a b x n : Int} {l : List Bool} : (readS a b l x n).1.length ≤ l.length := by
  unfold readS
  split
  · split
    · simp only [List.length_take, List.length_drop]; omega
    · simp
  · simp
theorem writeS_lenB {a b x : Int} {l w : List Bool} : (writeS a b l x w).1.length ≤ l.length + w.length := by
  unfold writeS
  split
  · split
    · simp only [List.length_append, List.length_take, List.length_drop]; omega
    · simp
  · simp

theorem CellsBits : bilgelaw13_CellsBits.Pure := by
  rintro ⟨⟨a, b⟩, l, w, x, n⟩ ⟨⟨_, _⟩, ⟨_, hl, _⟩, ⟨_, hw, _⟩, hx, hn⟩
  simp only at hx hn hl hw ⊢
  replace hx := i64_of hx
  replace hl : l.length * 1 ≤ 140737488351232 := hl
  replace hw : w.length * 1 ≤ 140737488351232 := hw
  obtain ⟨K, hK⟩ := sure13b
  refine ⟨K + 100000, ?_⟩
  unfold bilgelaw13_CellsBits.f
  have hs : bilgelaw13_sure.f (K + 100000) = some true := hK _ (by omega)
  by_cases h1 : wrap64 ((l.length : Int) + (w.length : Int)) > 2000
  · rw [if_pos h1, hs]; rfl
  · rw [if_neg h1]
    have e : wrap64 ((l.length : Int) + (w.length : Int)) = (l.length : Int) + (w.length : Int) := w64 (by constructor <;> omega)
    rw [e] at h1
    have r1 := readS_lenB (a := a) (b := b) (x := x) (n := n) (l := l)
    have r2 := writeS_lenB (a := a) (b := b) (x := x) (l := l) (w := w)
    unfold cells_Bits.f
    rw [creadB, Option.bind_some, Option.bind_some, rwordsB l hx _ (by omega), Option.bind_some, csetB, Option.bind_some, rsetB l w hx _ (by omega), Option.bind_some, same_eq (a := (readS a b l x n).1) (by omega) (by omega), Option.bind_some, if_pos (by simp), if_pos rfl, same_eq (a := (writeS a b l x w).1) (by omega) (by omega), Option.bind_some, if_pos (by simp), if_pos rfl, hs]
    rfl
end Go.Proofs.Ytmamkfnnoahcmaa.Pure
