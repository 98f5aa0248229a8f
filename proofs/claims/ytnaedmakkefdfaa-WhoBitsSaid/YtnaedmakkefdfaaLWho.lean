/- What the functions of package who, and those of its reference, come to: a status of eight coils, reports written and read. -/
import Derived.Test.YtnaedmakkefdfaaLFile
import Derived.Test.YtnaedmakkefdfaaLBits
import Derived.Test.YtnaedmakkefdfaaPx4
import Derived.Test.YtnaedmakkefdfaaPx2
import Derived.Test.YtnaedmakkefdfaaPx5
import Derived.Test.YtnaedmakkefdfaaPx6
namespace Go.Proofs.Ytnaedmakkefdfaa.L
open Go.RowKit Go.Proofs.Ytnaedmakkefdfaa.P Go.Proofs.YtnaedmakkefdfaaW.PrintWords Go.Proofs.YtnaedmakkefdfaaW.PrintLast Go.Proofs.YtnaedmakkefdfaaW.PrintMore
set_option linter.unusedVariables false
set_option linter.unusedSimpArgs false

/-- Whether a coil is there, and true. -/
def bitS (a b : Int) (l : List Bool) (x : Int) : Bool := if HasP a b x then rdOf false l (x - a) else false
theorem bit_eq {a b x : Int} {l : List Bool} (hl : (l.length : Int) = b) (hx : I64 x) : who_Status.bit a b l x = some (bitS a b l x) := by
  unfold who_Status.bit bitS
  rw [place_eq hx, Option.bind_some]
  by_cases h : HasP a b x
  · rw [if_pos h, if_pos h]
    have h' := h
    unfold HasP at h'
    simp only [if_true]
    rw [if_pos (by omega)]
  · rw [if_neg h, if_neg h]
    simp only [Bool.false_eq_true, if_false]
/-- Eight bits as a byte. -/
def stB (b0 b1 b2 b3 b4 b5 b6 b7 : Bool) : Int := rd (pk [b0, b1, b2, b3, b4, b5, b6, b7]) 0
def addS (j acc : Int) (b : Bool) : Int := if b = true then (acc + shl .u8 1 j) % 256 else acc
set_option maxRecDepth 100000 in
theorem stB_sum : ∀ b0 b1 b2 b3 b4 b5 b6 b7, addS 7 (addS 6 (addS 5 (addS 4 (addS 3 (addS 2 (addS 1 (addS 0 0 b0) b1) b2) b3) b4) b5) b6) b7 = stB b0 b1 b2 b3 b4 b5 b6 b7 := by decide +kernel
set_option maxRecDepth 100000 in
theorem stB_odd : ∀ b0 b1 b2 b3 b4 b5 b6 b7, ((Int.tmod (stB b0 b1 b2 b3 b4 b5 b6 b7) 2) == 1) = b0 := by decide +kernel
/-- The status: WH1. -/
def statS (P : Prop) [Decidable P] (a b : Int) (l : List Bool) (x : Int) : Int :=
  if P ∧ -8 ≤ x ∧ x ≤ 65535 then stB (bitS a b l x) (bitS a b l (x + 1)) (bitS a b l (x + 2)) (bitS a b l (x + 3)) (bitS a b l (x + 4)) (bitS a b l (x + 5)) (bitS a b l (x + 6)) (bitS a b l (x + 7)) else 0
theorem statS_yes {P : Prop} [Decidable P] {a b x : Int} {l : List Bool} (h : P ∧ -8 ≤ x ∧ x ≤ 65535) : statS P a b l x = stB (bitS a b l x) (bitS a b l (x + 1)) (bitS a b l (x + 2)) (bitS a b l (x + 3)) (bitS a b l (x + 4)) (bitS a b l (x + 5)) (bitS a b l (x + 6)) (bitS a b l (x + 7)) := if_pos h
theorem statS_no {P : Prop} [Decidable P] {a b x : Int} {l : List Bool} (h : ¬ (P ∧ -8 ≤ x ∧ x ≤ 65535)) : statS P a b l x = 0 := if_neg h
theorem stat_eq {a0 a1 a2 a3 a4 a5 a6 a7 a8 a9 x : Int} {l1 l2 : List Bool} {l3 l4 : List Int} {k : Nat} (hk : 8 < k) :
    who_Status.f k a0 a1 a2 a3 a4 a5 a6 a7 a8 a9 l1 l2 l3 l4 x = some (statS (FileP a0 a1 a2 a3 a4 a5 a6 a7 a8 a9 l1 l2 l3 l4) a0 a1 l1 x) := by
  unfold who_Status.f statS
  rw [fright_eq, Option.bind_some]
  by_cases h : FileP a0 a1 a2 a3 a4 a5 a6 a7 a8 a9 l1 l2 l3 l4
  · have hl : (l1.length : Int) = a1 := h.2.1
    simp only [h, decide_true, if_true, true_and]
    by_cases h1 : x < -8
    · rw [if_pos h1, if_neg (by omega)]
    · rw [if_neg h1]
      by_cases h2 : x > 65535
      · rw [if_pos h2, if_neg (by omega)]
      · rw [if_neg h2, if_pos (by omega)]
        rw [bit_eq hl (by omega), bit_eq hl (by omega), bit_eq hl (by omega), bit_eq hl (by omega), bit_eq hl (by omega), bit_eq hl (by omega), bit_eq hl (by omega), bit_eq hl (by omega)]
        simp only [Option.bind_some]
        rw [flags_eq (by simp) (by simpa using hk)]
        rfl
  · simp only [h, decide_false, Bool.false_eq_true, if_false, false_and]
theorem rstat_step {a0 a1 a2 a3 a4 a5 a6 a7 a8 a9 x j acc : Int} {l1 l2 : List Bool} {l3 l4 : List Int} (h : FileP a0 a1 a2 a3 a4 a5 a6 a7 a8 a9 l1 l2 l3 l4) (hx : -8 ≤ x ∧ x ≤ 65535) (hj : 0 ≤ j ∧ j < 8) (k : Nat) :
    bilgeref22_Status.l0 (k + 2) x acc j a0 a1 a2 a3 a4 a5 a6 a7 a8 a9 l1 l2 l3 l4 = bilgeref22_Status.l0 k x (addS j acc (bitS a0 a1 l1 (x + j))) (j + 1) a0 a1 a2 a3 a4 a5 a6 a7 a8 a9 l1 l2 l3 l4 := by
  have hl : (l1.length : Int) = a1 := h.2.1
  have h0 : RightP a0 a1 := h.1.1
  unfold RightP at h0
  simp only [bilgeref22_Status.l0]
  rw [if_pos hj.2, if_neg (by omega), if_neg (by omega), rfright_eq, Option.bind_some, decide_eq_true h, Bool.not_true]
  simp only [bilgeref22_Status.j1, Bool.false_eq_true, if_false]
  rw [w64 (x := x + j) (by omega), w64 (x := x + j - a0) (by omega), w64 (x := j + 1) (by omega), rhas_eq, Option.bind_some]
  unfold bitS
  by_cases h1 : HasP a0 a1 (x + j)
  · have h1' := h1
    unfold HasP at h1'
    simp only [h1, decide_true, if_true]
    rw [if_pos (by omega), if_pos (by omega)]
    unfold addS
    by_cases h2 : rdOf false l1 (x + j - a0) = true
    · rw [if_pos h2, if_pos hj.1, if_pos h2]
    · rw [if_neg h2, if_neg h2]
  · simp only [h1, decide_false, Bool.false_eq_true, if_false, addS]
theorem rstat_eq {a0 a1 a2 a3 a4 a5 a6 a7 a8 a9 x : Int} {l1 l2 : List Bool} {l3 l4 : List Int} (k : Nat) :
    bilgeref22_Status.f (k + 17) a0 a1 a2 a3 a4 a5 a6 a7 a8 a9 l1 l2 l3 l4 x = some (statS (FileP a0 a1 a2 a3 a4 a5 a6 a7 a8 a9 l1 l2 l3 l4) a0 a1 l1 x) := by
  unfold bilgeref22_Status.f statS
  by_cases h1 : -8 ≤ x ∧ x ≤ 65535
  · by_cases h : FileP a0 a1 a2 a3 a4 a5 a6 a7 a8 a9 l1 l2 l3 l4
    · rw [show k + 17 = (k + 1) + 2 + 2 + 2 + 2 + 2 + 2 + 2 + 2 from rfl, rstat_step h h1 (by omega), rstat_step h h1 (by omega), rstat_step h h1 (by omega), rstat_step h h1 (by omega), rstat_step h h1 (by omega), rstat_step h h1 (by omega), rstat_step h h1 (by omega), rstat_step h h1 (by omega)]
      simp only [bilgeref22_Status.l0]
      rw [if_neg (by omega), if_pos ⟨h, h1⟩]
      refine congrArg some ?_
      rw [← stB_sum]
      simp only [Int.add_zero, Int.zero_add, Int.reduceAdd]
    · rw [if_neg (fun hh => h hh.1)]
      simp only [bilgeref22_Status.l0]
      rw [if_pos (by omega), if_neg (by omega), if_neg (by omega), rfright_eq, Option.bind_some, decide_eq_false h, Bool.not_false]
      simp only [bilgeref22_Status.j1, if_true]
  · rw [if_neg (fun hh => h1 hh.2)]
    simp only [bilgeref22_Status.l0]
    rw [if_pos (by omega)]
    by_cases h2 : x > 65535
    · rw [if_pos h2]
      simp only [bilgeref22_Status.j1, if_true]
    · rw [if_neg h2, if_pos (by omega)]
      simp only [bilgeref22_Status.j1, if_true]

/-- What is said of who a server is. -/
def repS (l : List Int) (run : Bool) : List Int := ((l.length : Int) + 1) % 256 :: (l ++ [if run = true then 255 else 0])
theorem rep_eq {l : List Int} (hl : l.length ≤ 1000000) (run : Bool) : who_Report.f l run = some (if l.length ≤ 240 then (repS l run, 0) else ([], 13)) := by
  unfold who_Report.f repS
  by_cases h : (l.length : Int) > 240
  · rw [if_pos h, if_neg (show ¬ l.length ≤ 240 by omega)]
  · rw [if_neg h, if_pos (show l.length ≤ 240 by omega), w64 (by omega)]
    simp only [Option.bind_some, List.length_cons, List.length_nil, List.length_append]
    have e : (0 + 1 + l.length < 140737488355328) = True := eq_true (by omega)
    simp only [e, if_true]
    cases run <;> simp
theorem rrep_eq {l : List Int} (hl : l.length ≤ 1000000) (run : Bool) : bilgeref22_Report.f l run = some (if l.length ≤ 240 then (repS l run, true) else ([], false)) := by
  unfold bilgeref22_Report.f repS
  by_cases h : (l.length : Int) > 240
  · rw [if_pos h, if_neg (show ¬ l.length ≤ 240 by omega)]
  · rw [if_neg h, if_pos (show l.length ≤ 240 by omega), w64 (by omega)]
    simp only [Option.bind_some, List.length_cons, List.length_nil, List.length_append]
    have e : (0 + 1 + l.length < 140737488355328) = True := eq_true (by omega)
    simp only [e, if_true]
    cases run <;> simp
theorem read_short {b : List Int} (h : b.length < 2) : who_Read.f b = some ([], false, 14) := by
  unfold who_Read.f
  rw [w64 (x := (b.length : Int) - 1) (by omega), if_pos (by omega)]
theorem read_long {h e : Int} {m : List Int} (hm : m.length ≤ 1000000) (hh : U8 h) : who_Read.f (h :: (m ++ [e])) = some (if m.length ≤ 240 ∧ h = (m.length : Int) + 1 ∧ (e = 0 ∨ e = 255) then (m, e == 255, 0) else ([], false, 14)) := by
  unfold who_Read.f
  have hlen : ((h :: (m ++ [e])).length : Int) = (m.length : Int) + 2 := by simp; omega
  have e1 : wrap64 (((h :: (m ++ [e])).length : Int) - 1) = (m.length : Int) + 1 := by rw [hlen, w64 (by omega)]; omega
  have e2 : rd (h :: (m ++ [e])) 0 = h := by simp [rd]
  have e3 : rd (h :: (m ++ [e])) ((m.length : Int) + 1) = e := by
    have : ((m.length : Int) + 1).toNat = m.length + 1 := by omega
    simp [rd, this]
  have e4 : ((h :: (m ++ [e])).take ((m.length : Int) + 1).toNat).drop 1 = m := by
    have : ((m.length : Int) + 1).toNat = m.length + 1 := by omega
    rw [this]; simp
  rw [e1, e2, w64 (x := h) (by omega), e3, e4, hlen, if_neg (by omega)]
  by_cases h1 : (m.length : Int) + 1 > 241
  · rw [if_pos h1, if_neg (by omega)]
  · rw [if_neg h1, if_pos (by omega)]
    by_cases h2 : h = (m.length : Int) + 1
    · rw [if_pos h2, if_pos (by omega), if_pos (by omega)]
      simp only [Option.bind_some, List.length_nil, List.nil_append]
      by_cases h3 : e = 0
      · rw [if_pos h3, if_pos (by omega), if_pos (by omega), if_pos (by omega), if_pos ⟨by omega, h2, .inl h3⟩]
      · rw [if_neg h3]
        by_cases h4 : e = 255
        · rw [if_pos h4, if_pos (by omega), if_pos (by omega), if_pos (by omega), if_pos ⟨by omega, h2, .inr h4⟩]
        · rw [if_neg h4, if_neg (fun hh => hh.2.2.elim h3 h4)]
    · rw [if_neg h2, if_neg (fun hh => h2 hh.2.1)]
end Go.Proofs.Ytnaedmakkefdfaa.L
