/- What the reference's cells come to: tables of cells read and written. -/
import Derived.Test.YtamcpmfimicnjaaLCells
import Derived.Test.YtamcpmfimicnjaaPx9
import Derived.Test.YtamcpmfimicnjaaPx10
import Derived.Test.YtamcpmfimicnjaaPx11
namespace Go.Proofs.Ytamcpmfimicnjaa.L
open Go.RowKit Go.Proofs.Ytamcpmfimicnjaa.P Go.Proofs.YtamcpmfimicnjaaW.PrintWords Go.Proofs.YtamcpmfimicnjaaW.PrintLast Go.Proofs.YtamcpmfimicnjaaW.PrintMore
set_option linter.unusedVariables false
set_option linter.unusedSimpArgs false

theorem rwordsW_loop {a b x n : Int} {l : List Int} (h1 : RightP a b) (h2 : (l.length : Int) = b) (h3 : HoldsP a b x n) : ∀ (d k : Nat) (j : Int) (acc : List Int), 0 ≤ j → n - j = d → d < k → acc.length + d ≤ 1000000 →
    bilgeref13_Words.l0 k l x n acc j a b = some (acc ++ (l.drop (x - a + j).toNat).take d, 0) := by
  unfold HoldsP at h3
  unfold RightP at h1
  intro d
  induction d with
  | zero =>
    intro k j acc h4 h5 hk hc
    obtain ⟨k, rfl⟩ : ∃ m, k = m + 1 := ⟨k - 1, by omega⟩
    simp only [bilgeref13_Words.l0]
    rw [if_neg (by omega)]
    simp
  | succ d ih =>
    intro k j acc h4 h5 hk hc
    obtain ⟨k, rfl⟩ : ∃ m, k = m + 1 := ⟨k - 1, by omega⟩
    simp only [bilgeref13_Words.l0]
    rw [w64 (x := x - a) (by omega), w64 (x := x - a + j) (by omega), w64 (x := j + 1) (by omega), if_pos (by omega), if_pos (by omega), if_pos (by omega), if_pos (by omega),
      ih k (j + 1) _ (by omega) (by omega) (by omega) (by simp; omega), rd_drop (i := x - a + j) (by omega) (by omega), List.take_succ_cons, show (x - a + (j + 1)).toNat = (x - a + j).toNat + 1 by omega]
    simp
theorem rwordsW {a b x n : Int} (l : List Int) (hx : I64 x) (k : Nat) (hk : 65600 ≤ k) : bilgeref13_Words.f k a b l x n = some (readS a b l x n) := by
  obtain ⟨k, rfl⟩ : ∃ m, k = m + 1 := ⟨k - 1, by omega⟩
  unfold bilgeref13_Words.f bilgeref13_Own.f
  rw [rright_eq, Option.bind_some]
  unfold readS
  by_cases h1 : RightP a b
  · simp only [h1, decide_true, if_true, Option.bind_some, true_and]
    by_cases h2 : (l.length : Int) = b
    · simp only [h2, beq_self_eq_true, if_true, true_and]
      by_cases h3 : n < 1
      · simp only [h3, decide_true, bilgeref13_Words.j0, if_true]
        rw [if_neg (by omega)]
      · simp only [h3, decide_false, bilgeref13_Words.j0, Bool.false_eq_true, if_false]
        rw [rholds_eq hx, Option.bind_some, if_pos (show 1 ≤ n by omega)]
        by_cases h4 : HoldsP a b x n
        · simp only [h4, decide_true, if_true]
          have h4' := h4
          have h1' := h1
          unfold HoldsP at h4'
          unfold RightP at h1'
          rw [rwordsW_loop h1 h2 h4 n.toNat k 0 [] (by omega) (by omega) (by omega) (by simp; omega)]
          simp
        · simp only [h4, decide_false, Bool.false_eq_true, if_false]
    · have e : ((l.length : Int) == b) = false := by simpa using h2
      simp only [e, Bool.false_eq_true, if_false, bilgeref13_Words.j0, if_true, h2, false_and]
  · simp only [h1, decide_false, Bool.false_eq_true, if_false, Option.bind_some, bilgeref13_Words.j0, if_true, false_and]

theorem set_stepW {l w : List Int} {s j : Nat} (h1 : s + j < l.length) (h2 : j < w.length) : (l.take s ++ w.take j ++ l.drop (s + j)).set (s + j) (rd w (j : Int)) = l.take s ++ w.take (j + 1) ++ l.drop (s + (j + 1)) := by
  have e1 : (l.take s ++ w.take j).length = s + j := by rw [List.length_append, List.length_take, List.length_take]; omega
  have e2 : rd w (j : Int) = w[j] := by simp [rd, List.getD, h2]
  rw [List.set_append_right _ _ (by omega), e1, Nat.sub_self, List.drop_eq_getElem_cons h1, List.set_cons_zero, List.take_succ_eq_append_getElem h2, e2]
  simp only [List.append_assoc, List.cons_append, List.nil_append, Nat.add_assoc]
theorem rsetW_loop {a b x : Int} {l w : List Int} (h1 : RightP a b) (h2 : (l.length : Int) = b) (h3 : HoldsP a b x w.length) : ∀ (d k j : Nat), j + d = w.length → d < k →
    bilgeref13_SetWords.l0 k x w (l.take (x - a).toNat ++ w.take j ++ l.drop ((x - a).toNat + j)) (j : Int) a b = some (l.take (x - a).toNat ++ w ++ l.drop ((x - a).toNat + w.length), 0) := by
  unfold HoldsP at h3
  unfold RightP at h1
  intro d
  induction d with
  | zero =>
    intro k j h4 hk
    obtain ⟨k, rfl⟩ : ∃ m, k = m + 1 := ⟨k - 1, by omega⟩
    obtain rfl : j = w.length := by omega
    simp only [bilgeref13_SetWords.l0]
    rw [if_neg (by omega), List.take_length]
  | succ d ih =>
    intro k j h4 hk
    obtain ⟨k, rfl⟩ : ∃ m, k = m + 1 := ⟨k - 1, by omega⟩
    have hi := ih k (j + 1) (by omega) (by omega)
    simp only [bilgeref13_SetWords.l0]
    rw [w64 (x := x - a) (by omega), w64 (x := x - a + (j : Int)) (by omega), w64 (x := (j : Int) + 1) (by omega), if_pos (by omega), if_pos (by omega), if_pos (by omega), if_pos, show (x - a + (j : Int)).toNat = (x - a).toNat + j by omega, set_stepW (by omega) (by omega)]
    · exact hi
    · rw [List.length_append, List.length_append, List.length_take, List.length_take, List.length_drop]
      omega
theorem rsetW {a b x : Int} (l w : List Int) (hx : I64 x) (k : Nat) (hk : 65600 ≤ k) : bilgeref13_SetWords.f k a b l x w = some (writeS a b l x w) := by
  obtain ⟨k, rfl⟩ : ∃ m, k = m + 1 := ⟨k - 1, by omega⟩
  unfold bilgeref13_SetWords.f bilgeref13_Own.f
  rw [rright_eq, Option.bind_some]
  unfold writeS
  by_cases h1 : RightP a b
  · simp only [h1, decide_true, if_true, Option.bind_some, true_and]
    by_cases h2 : (l.length : Int) = b
    · simp only [h2, beq_self_eq_true, if_true, true_and]
      by_cases h3 : (w.length : Int) = 0
      · simp only [h3, beq_self_eq_true, bilgeref13_SetWords.j0, if_true]
        rw [if_neg (by omega)]
      · have e : ((w.length : Int) == 0) = false := by simpa using h3
        simp only [e, bilgeref13_SetWords.j0, Bool.false_eq_true, if_false]
        rw [rholds_eq hx, Option.bind_some, if_pos (show 1 ≤ w.length by omega)]
        by_cases h4 : HoldsP a b x w.length
        · simp only [h4, decide_true, if_true]
          have h4' := h4
          have h1' := h1
          unfold HoldsP at h4'
          unfold RightP at h1'
          rw [Option.bind_some, if_pos (by simp; omega)]
          have h := rsetW_loop h1 h2 h4 w.length k 0 (by omega) (by omega)
          have e0 : l.take (x - a).toNat ++ w.take 0 ++ l.drop ((x - a).toNat + 0) = l := by simp
          rw [e0] at h
          exact h
        · simp only [h4, decide_false, Bool.false_eq_true, if_false]
    · have e : ((l.length : Int) == b) = false := by simpa using h2
      simp only [e, Bool.false_eq_true, if_false, bilgeref13_SetWords.j0, if_true, h2, false_and]
  · simp only [h1, decide_false, Bool.false_eq_true, if_false, Option.bind_some, bilgeref13_SetWords.j0, if_true, false_and]
theorem rwordsB_loop {a b x n : Int} {l : List Bool} (h1 : RightP a b) (h2 : (l.length : Int) = b) (h3 : HoldsP a b x n) : ∀ (d k : Nat) (j : Int) (acc : List Bool), 0 ≤ j → n - j = d → d < k → acc.length + d ≤ 1000000 →
    bilgeref13_Bits.l0 k l x n acc j a b = some (acc ++ (l.drop (x - a + j).toNat).take d, 0) := by
  unfold HoldsP at h3
  unfold RightP at h1
  intro d
  induction d with
  | zero =>
    intro k j acc h4 h5 hk hc
    obtain ⟨k, rfl⟩ : ∃ m, k = m + 1 := ⟨k - 1, by omega⟩
    simp only [bilgeref13_Bits.l0]
    rw [if_neg (by omega)]
    simp
  | succ d ih =>
    intro k j acc h4 h5 hk hc
    obtain ⟨k, rfl⟩ : ∃ m, k = m + 1 := ⟨k - 1, by omega⟩
    simp only [bilgeref13_Bits.l0]
    rw [w64 (x := x - a) (by omega), w64 (x := x - a + j) (by omega), w64 (x := j + 1) (by omega), if_pos (by omega), if_pos (by omega), if_pos (by omega), if_pos (by omega),
      ih k (j + 1) _ (by omega) (by omega) (by omega) (by simp; omega), rdOf_drop (d := false) (i := x - a + j) (by omega) (by omega), List.take_succ_cons, show (x - a + (j + 1)).toNat = (x - a + j).toNat + 1 by omega]
    simp
theorem rwordsB {a b x n : Int} (l : List Bool) (hx : I64 x) (k : Nat) (hk : 65600 ≤ k) : bilgeref13_Bits.f k a b l x n = some (readS a b l x n) := by
  obtain ⟨k, rfl⟩ : ∃ m, k = m + 1 := ⟨k - 1, by omega⟩
  unfold bilgeref13_Bits.f bilgeref13_Own.f
  rw [rright_eq, Option.bind_some]
  unfold readS
  by_cases h1 : RightP a b
  · simp only [h1, decide_true, if_true, Option.bind_some, true_and]
    by_cases h2 : (l.length : Int) = b
    · simp only [h2, beq_self_eq_true, if_true, true_and]
      by_cases h3 : n < 1
      · simp only [h3, decide_true, bilgeref13_Bits.j0, if_true]
        rw [if_neg (by omega)]
      · simp only [h3, decide_false, bilgeref13_Bits.j0, Bool.false_eq_true, if_false]
        rw [rholds_eq hx, Option.bind_some, if_pos (show 1 ≤ n by omega)]
        by_cases h4 : HoldsP a b x n
        · simp only [h4, decide_true, if_true]
          have h4' := h4
          have h1' := h1
          unfold HoldsP at h4'
          unfold RightP at h1'
          rw [rwordsB_loop h1 h2 h4 n.toNat k 0 [] (by omega) (by omega) (by omega) (by simp; omega)]
          simp
        · simp only [h4, decide_false, Bool.false_eq_true, if_false]
    · have e : ((l.length : Int) == b) = false := by simpa using h2
      simp only [e, Bool.false_eq_true, if_false, bilgeref13_Bits.j0, if_true, h2, false_and]
  · simp only [h1, decide_false, Bool.false_eq_true, if_false, Option.bind_some, bilgeref13_Bits.j0, if_true, false_and]

theorem set_stepB {l w : List Bool} {s j : Nat} (h1 : s + j < l.length) (h2 : j < w.length) : (l.take s ++ w.take j ++ l.drop (s + j)).set (s + j) (rdOf false w (j : Int)) = l.take s ++ w.take (j + 1) ++ l.drop (s + (j + 1)) := by
  have e1 : (l.take s ++ w.take j).length = s + j := by rw [List.length_append, List.length_take, List.length_take]; omega
  have e2 : rdOf false w (j : Int) = w[j] := by simp [rdOf, List.getD, h2]
  rw [List.set_append_right _ _ (by omega), e1, Nat.sub_self, List.drop_eq_getElem_cons h1, List.set_cons_zero, List.take_succ_eq_append_getElem h2, e2]
  simp only [List.append_assoc, List.cons_append, List.nil_append, Nat.add_assoc]
theorem rsetB_loop {a b x : Int} {l w : List Bool} (h1 : RightP a b) (h2 : (l.length : Int) = b) (h3 : HoldsP a b x w.length) : ∀ (d k j : Nat), j + d = w.length → d < k →
    bilgeref13_SetBits.l0 k x w (l.take (x - a).toNat ++ w.take j ++ l.drop ((x - a).toNat + j)) (j : Int) a b = some (l.take (x - a).toNat ++ w ++ l.drop ((x - a).toNat + w.length), 0) := by
  unfold HoldsP at h3
  unfold RightP at h1
  intro d
  induction d with
  | zero =>
    intro k j h4 hk
    obtain ⟨k, rfl⟩ : ∃ m, k = m + 1 := ⟨k - 1, by omega⟩
    obtain rfl : j = w.length := by omega
    simp only [bilgeref13_SetBits.l0]
    rw [if_neg (by omega), List.take_length]
  | succ d ih =>
    intro k j h4 hk
    obtain ⟨k, rfl⟩ : ∃ m, k = m + 1 := ⟨k - 1, by omega⟩
    have hi := ih k (j + 1) (by omega) (by omega)
    simp only [bilgeref13_SetBits.l0]
    rw [w64 (x := x - a) (by omega), w64 (x := x - a + (j : Int)) (by omega), w64 (x := (j : Int) + 1) (by omega), if_pos (by omega), if_pos (by omega), if_pos (by omega), if_pos, show (x - a + (j : Int)).toNat = (x - a).toNat + j by omega, set_stepB (by omega) (by omega)]
    · exact hi
    · rw [List.length_append, List.length_append, List.length_take, List.length_take, List.length_drop]
      omega
theorem rsetB {a b x : Int} (l w : List Bool) (hx : I64 x) (k : Nat) (hk : 65600 ≤ k) : bilgeref13_SetBits.f k a b l x w = some (writeS a b l x w) := by
  obtain ⟨k, rfl⟩ : ∃ m, k = m + 1 := ⟨k - 1, by omega⟩
  unfold bilgeref13_SetBits.f bilgeref13_Own.f
  rw [rright_eq, Option.bind_some]
  unfold writeS
  by_cases h1 : RightP a b
  · simp only [h1, decide_true, if_true, Option.bind_some, true_and]
    by_cases h2 : (l.length : Int) = b
    · simp only [h2, beq_self_eq_true, if_true, true_and]
      by_cases h3 : (w.length : Int) = 0
      · simp only [h3, beq_self_eq_true, bilgeref13_SetBits.j0, if_true]
        rw [if_neg (by omega)]
      · have e : ((w.length : Int) == 0) = false := by simpa using h3
        simp only [e, bilgeref13_SetBits.j0, Bool.false_eq_true, if_false]
        rw [rholds_eq hx, Option.bind_some, if_pos (show 1 ≤ w.length by omega)]
        by_cases h4 : HoldsP a b x w.length
        · simp only [h4, decide_true, if_true]
          have h4' := h4
          have h1' := h1
          unfold HoldsP at h4'
          unfold RightP at h1'
          rw [Option.bind_some, if_pos (by simp; omega)]
          have h := rsetB_loop h1 h2 h4 w.length k 0 (by omega) (by omega)
          have e0 : l.take (x - a).toNat ++ w.take 0 ++ l.drop ((x - a).toNat + 0) = l := by simp
          rw [e0] at h
          exact h
        · simp only [h4, decide_false, Bool.false_eq_true, if_false]
    · have e : ((l.length : Int) == b) = false := by simpa using h2
      simp only [e, Bool.false_eq_true, if_false, bilgeref13_SetBits.j0, if_true, h2, false_and]
  · simp only [h1, decide_false, Bool.false_eq_true, if_false, Option.bind_some, bilgeref13_SetBits.j0, if_true, false_and]
end Go.Proofs.Ytamcpmfimicnjaa.L
