/- The pure statement of CellsBack: what was written is read; nothing else changes; of words, and of bits. -/
import Derived.Test.YtmamkfnnoahcmaaPx8
import Derived.Test.YtmamkfnnoahcmaaPx3
import Derived.Test.YtmamkfnnoahcmaaLRefCells
import Derived.Test.YtmamkfnnoahcmaaLSameB
import Derived.Test.YtmamkfnnoahcmaaLSameW
namespace Go.Proofs.Ytmamkfnnoahcmaa.Pure
open Go.RowKit Go.Proofs.Ytmamkfnnoahcmaa.P Go.Proofs.YtmamkfnnoahcmaaW.PrintWords Go.Proofs.YtmamkfnnoahcmaaW.PrintLast Go.Proofs.Ytmamkfnnoahcmaa.L
set_option maxRecDepth 100000 in
theorem sure13k : ∃ K, ∀ k, K ≤ k → bilgelaw13_sure.f k = some true :=
  Ev.of (g := fun k => bilgelaw13_sure.f k) (fun k => bilgelaw13_sure.mono k) (k := 20) (by decide +kernel)

theorem read_all {α : Type} {a b x : Int} {l w : List α} (hr : RightP a b) (hl : (l.length : Int) = b) (hw : 1 ≤ w.length) (hh : HoldsP a b x w.length) :
    readS a b (l.take (x - a).toNat ++ w ++ l.drop ((x - a).toNat + w.length)) x w.length = (w, 0) := by
  unfold readS
  have hr' := hr
  have hh' := hh
  unfold RightP at hr'
  unfold HoldsP at hh'
  have h1 : ((l.take (x - a).toNat ++ w ++ l.drop ((x - a).toNat + w.length)).length : Int) = b := by
    simp only [List.length_append, List.length_take, List.length_drop]
    omega
  rw [if_pos ⟨hr, h1, by omega⟩, if_pos hh]
  have e : (l.take (x - a).toNat).length = (x - a).toNat := by rw [List.length_take]; omega
  rw [List.append_assoc, List.drop_append_of_le_length (by omega), List.drop_of_length_le (by omega), List.nil_append]
  simp
theorem write_back {α : Type} {a b x : Int} {l w : List α} (hr : RightP a b) (hl : (l.length : Int) = b) (hw : 1 ≤ w.length) (hh : HoldsP a b x w.length) :
    writeS a b (l.take (x - a).toNat ++ w ++ l.drop ((x - a).toNat + w.length)) x ((l.drop (x - a).toNat).take w.length) = (l, 0) := by
  unfold writeS
  have hr' := hr
  have hh' := hh
  unfold RightP at hr'
  unfold HoldsP at hh'
  have h1 : ((l.take (x - a).toNat ++ w ++ l.drop ((x - a).toNat + w.length)).length : Int) = b := by
    simp only [List.length_append, List.length_take, List.length_drop]
    omega
  have h2 : ((l.drop (x - a).toNat).take w.length).length = w.length := by
    simp only [List.length_take, List.length_drop]
    omega
  have h3 : (w.length : Int) = (((l.drop (x - a).toNat).take w.length).length : Int) := by omega
  rw [if_pos ⟨hr, h1, by omega⟩, ← h3, if_pos hh, h2]
  have e : (l.take (x - a).toNat).length = (x - a).toNat := by rw [List.length_take]; omega
  have e2 : (l.take (x - a).toNat ++ w).length = (x - a).toNat + w.length := by rw [List.length_append, e]
  have t1 : (l.take (x - a).toNat ++ w ++ l.drop ((x - a).toNat + w.length)).take (x - a).toNat = l.take (x - a).toNat := by
    rw [List.append_assoc, List.take_append_of_le_length (by omega), List.take_of_length_le (by omega)]
  have t2 : (l.take (x - a).toNat ++ w ++ l.drop ((x - a).toNat + w.length)).drop ((x - a).toNat + w.length) = l.drop ((x - a).toNat + w.length) := by
    rw [List.drop_append_of_le_length (by omega), List.drop_of_length_le (by omega), List.nil_append]
  rw [t1, t2, ← List.drop_drop, List.append_assoc, List.take_append_drop, List.take_append_drop]
theorem rd_apart {l w : List Int} {s : Nat} {i : Int} (h0 : 0 ≤ i) (h1 : i < l.length) (h2 : s + w.length ≤ l.length) (h3 : i < s ∨ (s : Int) + w.length ≤ i) : rd (l.take s ++ w ++ l.drop (s + w.length)) i = rd l i := by
  obtain ⟨i, rfl⟩ := Int.eq_ofNat_of_zero_le h0
  rw [rd_nat, rd_nat, List.getD_eq_getElem?_getD, List.getD_eq_getElem?_getD]
  congr 1
  have e : (l.take s).length = s := by rw [List.length_take]; omega
  rcases h3 with h3 | h3
  · rw [List.append_assoc, List.getElem?_append_left (by omega), List.getElem?_take_of_lt (by omega)]
  · rw [List.getElem?_append_right (by rw [List.length_append, e]; omega), List.length_append, e, List.getElem?_drop]
    congr 1
    omega

theorem back_j2 {c d x n : Int} {l w : List Bool} (_ : I64 x) (hb : l.length + w.length ≤ 2000) {K : Nat} (hs : ∀ k, K ≤ k → bilgelaw13_sure.f k = some true) {k : Nat} (hk : K + 10000 ≤ k) : bilgelaw13_CellsBack.j2 k c d l w x n = some true := by
  obtain ⟨k, rfl⟩ : ∃ m, k = m + 2 := ⟨k - 2, by omega⟩
  simp only [bilgelaw13_CellsBack.j2, csetB, Option.bind_some]
  by_cases h1 : RightP c d ∧ (l.length : Int) = d ∧ 1 ≤ w.length
  · by_cases h2 : HoldsP c d x w.length
    · have e1 : writeS c d l x w = (l.take (x - c).toNat ++ w ++ l.drop ((x - c).toNat + w.length), 0) := by
        unfold writeS
        rw [if_pos h1, if_pos h2]
      have e2 : readS c d l x w.length = ((l.drop (x - c).toNat).take w.length, 0) := by
        unfold readS
        rw [if_pos ⟨h1.1, h1.2.1, by omega⟩, if_pos h2]
        simp
      unfold cells_Bits.f
      simp only [e1, if_true, creadB, Option.bind_some, read_all h1.1 h1.2.1 h1.2.2 h2, e2, write_back h1.1 h1.2.1 h1.2.2 h2]
      rw [same_eq (by omega) (by omega), Option.bind_some, decide_eq_true rfl, if_pos rfl, same_eq (by omega) (by omega), Option.bind_some, decide_eq_true rfl, if_pos rfl, hs _ (by omega)]
      rfl
    · have e1 : writeS c d l x w = ([], 2) := by
        unfold writeS
        rw [if_pos h1, if_neg h2]
      simp only [e1]
      rw [if_neg (by decide), if_pos (by simp), hs _ (by omega)]
      rfl
  · have e1 : writeS c d l x w = ([], 11) := by
      unfold writeS
      rw [if_neg h1]
    simp only [e1]
    rw [if_neg (by decide), if_pos (by simp), hs _ (by omega)]
    rfl

theorem back_l0 {a b x n c d y m : Int} {l w : List Int} {p q : List Bool} (_ : I64 x) (hr : RightP a b) (hl : (l.length : Int) = b) (hh : HoldsP a b x w.length) {K : Nat} (hj : ∀ k, K ≤ k → bilgelaw13_CellsBack.j2 k c d p q y m = some true) : ∀ (e k : Nat) (i : Int), 0 ≤ i → (l.length : Int) - i = e → K + e < k →
    bilgelaw13_CellsBack.l0 k (l.take (x - a).toNat ++ w ++ l.drop ((x - a).toNat + w.length)) i a b l w x n c d p q y m = some true := by
  have hr' := hr
  have hh' := hh
  unfold RightP at hr'
  unfold HoldsP at hh'
  have hlen : ((l.take (x - a).toNat ++ w ++ l.drop ((x - a).toNat + w.length)).length : Int) = l.length := by
    simp only [List.length_append, List.length_take, List.length_drop]
    omega
  intro e
  induction e with
  | zero =>
    intro k i h0 h1 hk
    obtain ⟨k, rfl⟩ : ∃ m, k = m + 1 := ⟨k - 1, by omega⟩
    simp only [bilgelaw13_CellsBack.l0, hlen]
    rw [if_neg (by omega), hj _ (by omega)]
  | succ e ih =>
    intro k i h0 h1 hk
    obtain ⟨k, rfl⟩ : ∃ m, k = m + 1 := ⟨k - 1, by omega⟩
    have hi := ih k (i + 1) (by omega) (by omega) (by omega)
    simp only [bilgelaw13_CellsBack.l0, hlen]
    rw [if_pos (by omega), w64 (x := a + i) (by omega), w64 (x := x + (w.length : Int)) (by omega), w64 (x := i + 1) (by omega)]
    by_cases h : a + i < x
    · rw [if_pos h, if_pos h0, if_pos (by omega), rd_apart h0 (by omega) (by omega) (by omega), if_pos rfl, hi]
    · rw [if_neg h]
      by_cases h' : a + i ≥ x + (w.length : Int)
      · rw [if_pos h', if_pos h0, if_pos (by omega), rd_apart h0 (by omega) (by omega) (by omega), if_pos rfl, hi]
      · rw [if_neg h', hi]

theorem CellsBack : bilgelaw13_CellsBack.Pure := by
  rintro ⟨⟨a, b⟩, l, w, x, n⟩ ⟨⟨c, d⟩, p, q, y, m⟩ ⟨⟨_, _⟩, ⟨_, hl, _⟩, ⟨_, hw, _⟩, hx, hn⟩ ⟨⟨_, _⟩, ⟨_, hp, _⟩, ⟨_, hq, _⟩, hy, hm⟩
  simp only at hx hn hy hm ⊢
  replace hx := i64_of hx
  replace hy := i64_of hy
  replace hl : l.length * 2 ≤ 140737488351232 := hl
  replace hw : w.length * 2 ≤ 140737488351232 := hw
  replace hp : p.length * 1 ≤ 140737488351232 := hp
  replace hq : q.length * 1 ≤ 140737488351232 := hq
  obtain ⟨K, hK⟩ := sure13k
  refine ⟨K + 100000, ?_⟩
  have hs : bilgelaw13_sure.f (K + 100000) = some true := hK _ (by omega)
  unfold bilgelaw13_CellsBack.f
  rw [w64 (x := (l.length : Int) + (w.length : Int)) (by constructor <;> omega), w64 (x := (l.length : Int) + (w.length : Int) + (p.length : Int)) (by constructor <;> omega), w64 (x := (l.length : Int) + (w.length : Int) + (p.length : Int) + (q.length : Int)) (by constructor <;> omega)]
  by_cases h1 : (l.length : Int) + (w.length : Int) + (p.length : Int) + (q.length : Int) > 2000
  · rw [if_pos h1, hs]; rfl
  · rw [if_neg h1]
    have hj : ∀ k, K + 10000 ≤ k → bilgelaw13_CellsBack.j2 k c d p q y m = some true := fun k hk => back_j2 hy (by omega) hK hk
    rw [csetW, Option.bind_some]
    by_cases h2 : RightP a b ∧ (l.length : Int) = b ∧ 1 ≤ w.length
    · by_cases h3 : HoldsP a b x w.length
      · have e1 : writeS a b l x w = (l.take (x - a).toNat ++ w ++ l.drop ((x - a).toNat + w.length), 0) := by
          unfold writeS
          rw [if_pos h2, if_pos h3]
        have h2' := h2.1
        unfold RightP at h2'
        have h3' := h3
        unfold HoldsP at h3'
        have hlen : ((l.take (x - a).toNat ++ w ++ l.drop ((x - a).toNat + w.length)).length : Int) = (l.length : Int) := by
          simp only [List.length_append, List.length_take, List.length_drop]
          omega
        have hne : ((l.length : Int) != (l.length : Int)) = false := by simp
        simp only [e1, if_true, cwordsW, Option.bind_some, read_all h2.1 h2.2.1 h2.2.2 h3, hlen, hne]
        rw [words_eq (by omega) (by omega), Option.bind_some, decide_eq_true rfl, if_pos rfl]
        simp only [bilgelaw13_CellsBack.j0, Bool.false_eq_true, if_false]
        exact back_l0 hx h2.1 h2.2.1 h3 hj l.length _ 0 (by omega) (by omega) (by omega)
      · have e1 : writeS a b l x w = ([], 2) := by
          unfold writeS
          rw [if_pos h2, if_neg h3]
        simp only [e1]
        rw [if_neg (by decide)]
        exact hj _ (by omega)
    · have e1 : writeS a b l x w = ([], 11) := by
        unfold writeS
        rw [if_neg h2]
      simp only [e1]
      rw [if_neg (by decide)]
      exact hj _ (by omega)
end Go.Proofs.Ytmamkfnnoahcmaa.Pure
