/- What the functions of package cells, and those of its reference, come to: tables of cells read and written; a word by masks. -/
import Derived.Test.YtamcpmfimicnjaaLRefWindow
import Derived.Test.YtamcpmfimicnjaaLSameW
import Derived.Test.YtamcpmfimicnjaaPx9
import Derived.Test.YtamcpmfimicnjaaPx12
import Derived.Test.YtamcpmfimicnjaaPx13
namespace Go.Proofs.Ytamcpmfimicnjaa.L
open Go.RowKit Go.Proofs.Ytamcpmfimicnjaa.P Go.Proofs.YtamcpmfimicnjaaW.PrintWords Go.Proofs.YtamcpmfimicnjaaW.PrintLast Go.Proofs.YtamcpmfimicnjaaW.PrintMore
set_option linter.unusedVariables false
set_option linter.unusedSimpArgs false

/-- So many cells from a place on; the error's number. -/
def readS {α : Type} (a b : Int) (l : List α) (x n : Int) : List α × Int :=
  if RightP a b ∧ (l.length : Int) = b ∧ 1 ≤ n then (if HoldsP a b x n then ((l.drop (x - a).toNat).take n.toNat, 0) else ([], 2)) else ([], 11)
/-- Cells with others from a place on; the error's number. -/
def writeS {α : Type} (a b : Int) (l : List α) (x : Int) (w : List α) : List α × Int :=
  if RightP a b ∧ (l.length : Int) = b ∧ 1 ≤ w.length then (if HoldsP a b x w.length then (l.take (x - a).toNat ++ w ++ l.drop ((x - a).toNat + w.length), 0) else ([], 2)) else ([], 11)

theorem creadW (k : Nat) {a b x n : Int} (l : List Int) : cells_read_uint16.f (k + 1) a b l x n = some (readS a b l x n) := by
  unfold cells_read_uint16.f
  rw [right_eq, Option.bind_some]
  by_cases h1 : RightP a b
  · simp only [h1, decide_true, if_true]
    have h1' := h1
    unfold RightP at h1'
    by_cases h2 : (l.length : Int) = b
    · rw [if_pos h2]
      by_cases h3 : n < 1
      · rw [if_pos h3]
        unfold readS
        rw [if_neg (by omega)]
      · rw [if_neg h3, holds_eq, Option.bind_some]
        unfold readS
        rw [if_pos (show RightP a b ∧ (l.length : Int) = b ∧ 1 ≤ n from ⟨h1, h2, by omega⟩)]
        by_cases h4 : HoldsP a b x n
        · have h4' := h4
          unfold HoldsP at h4'
          simp only [h4, decide_true, if_true]
          rw [w64 (by omega), if_pos (by omega), if_pos (by omega), if_pos (by omega)]
          unfold cells_read_uint16.cut
          rw [show min (l.length - (x - a).toNat) n.toNat = n.toNat by omega, List.drop_replicate, Nat.sub_self, List.replicate_zero, List.append_nil]
        · simp only [h4, decide_false, Bool.false_eq_true, if_false]
    · rw [if_neg h2]
      unfold readS
      rw [if_neg (fun h => h2 h.2.1)]
  · simp only [h1, decide_false, Bool.false_eq_true, if_false]
    unfold readS
    rw [if_neg (fun h => h1 h.1)]
theorem cwordsW (k : Nat) {a b x n : Int} (l : List Int) : cells_Words.f (k + 1) a b l x n = some (readS a b l x n) := by
  unfold cells_Words.f
  rw [creadW, Option.bind_some]
theorem csetW (k : Nat) {a b x : Int} (l w : List Int) : cells_SetWords.f (k + 1) a b l x w = some (writeS a b l x w) := by
  unfold cells_SetWords.f cells_write_uint16.f
  rw [creadW, Option.bind_some]
  unfold readS writeS
  by_cases h1 : RightP a b ∧ (l.length : Int) = b ∧ 1 ≤ (w.length : Int)
  · have h1' : RightP a b ∧ (l.length : Int) = b ∧ 1 ≤ w.length := ⟨h1.1, h1.2.1, by omega⟩
    rw [if_pos h1, if_pos h1']
    by_cases h2 : HoldsP a b x w.length
    · rw [if_pos h2, if_pos h2]
      have h3 := h1.1
      have h2' := h2
      unfold HoldsP at h2'
      unfold RightP at h3
      simp only [if_true]
      rw [w64 (by omega), if_pos (by omega), if_pos (by omega), if_pos (by omega), Option.bind_some]
      unfold cells_write_uint16.put
      rw [show min w.length (l.length - (x - a).toNat) = w.length by omega, List.take_length]
    · rw [if_neg h2, if_neg h2]
      simp
  · have h1' : ¬ (RightP a b ∧ (l.length : Int) = b ∧ 1 ≤ w.length) := fun h => h1 ⟨h.1, h.2.1, by omega⟩
    rw [if_neg h1, if_neg h1']
    simp
theorem creadB (k : Nat) {a b x n : Int} (l : List Bool) : cells_read_bool.f (k + 1) a b l x n = some (readS a b l x n) := by
  unfold cells_read_bool.f
  rw [right_eq, Option.bind_some]
  by_cases h1 : RightP a b
  · simp only [h1, decide_true, if_true]
    have h1' := h1
    unfold RightP at h1'
    by_cases h2 : (l.length : Int) = b
    · rw [if_pos h2]
      by_cases h3 : n < 1
      · rw [if_pos h3]
        unfold readS
        rw [if_neg (by omega)]
      · rw [if_neg h3, holds_eq, Option.bind_some]
        unfold readS
        rw [if_pos (show RightP a b ∧ (l.length : Int) = b ∧ 1 ≤ n from ⟨h1, h2, by omega⟩)]
        by_cases h4 : HoldsP a b x n
        · have h4' := h4
          unfold HoldsP at h4'
          simp only [h4, decide_true, if_true]
          rw [w64 (by omega), if_pos (by omega), if_pos (by omega), if_pos (by omega)]
          unfold cells_read_bool.cut
          rw [show min (l.length - (x - a).toNat) n.toNat = n.toNat by omega, List.drop_replicate, Nat.sub_self, List.replicate_zero, List.append_nil]
        · simp only [h4, decide_false, Bool.false_eq_true, if_false]
    · rw [if_neg h2]
      unfold readS
      rw [if_neg (fun h => h2 h.2.1)]
  · simp only [h1, decide_false, Bool.false_eq_true, if_false]
    unfold readS
    rw [if_neg (fun h => h1 h.1)]
theorem cwordsB (k : Nat) {a b x n : Int} (l : List Bool) : cells_Bits.f (k + 1) a b l x n = some (readS a b l x n) := by
  unfold cells_Bits.f
  rw [creadB, Option.bind_some]
theorem csetB (k : Nat) {a b x : Int} (l w : List Bool) : cells_SetBits.f (k + 1) a b l x w = some (writeS a b l x w) := by
  unfold cells_SetBits.f cells_write_bool.f
  rw [creadB, Option.bind_some]
  unfold readS writeS
  by_cases h1 : RightP a b ∧ (l.length : Int) = b ∧ 1 ≤ (w.length : Int)
  · have h1' : RightP a b ∧ (l.length : Int) = b ∧ 1 ≤ w.length := ⟨h1.1, h1.2.1, by omega⟩
    rw [if_pos h1, if_pos h1']
    by_cases h2 : HoldsP a b x w.length
    · rw [if_pos h2, if_pos h2]
      have h3 := h1.1
      have h2' := h2
      unfold HoldsP at h2'
      unfold RightP at h3
      simp only [if_true]
      rw [w64 (by omega), if_pos (by omega), if_pos (by omega), if_pos (by omega), Option.bind_some]
      unfold cells_write_bool.put
      rw [show min w.length (l.length - (x - a).toNat) = w.length by omega, List.take_length]
    · rw [if_neg h2, if_neg h2]
      simp
  · have h1' : ¬ (RightP a b ∧ (l.length : Int) = b ∧ 1 ≤ w.length) := fun h => h1 ⟨h.1, h.2.1, by omega⟩
    rw [if_neg h1, if_neg h1']
    simp
end Go.Proofs.Ytamcpmfimicnjaa.L
