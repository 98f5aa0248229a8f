import Derived.Test.YtamcpmfimicnjaaX
import Derived.Test.YtamcpmfimicnjaaFp
import Derived.Test.YtamcpmfimicnjaaInp0
import Derived.Test.YtamcpmfimicnjaaLFile
namespace Go.Proofs.Ytamcpmfimicnjaa.P
open Go.RowKit Go.Proofs.YtamcpmfimicnjaaW.PrintWords Go.Proofs.YtamcpmfimicnjaaW.PrintLast Go.Proofs.YtamcpmfimicnjaaW.PrintMore
attribute [local go_sem] max2_int min2_int max_two min_two max_three min_three max_four min_four   -- for this text's walks alone
set_option linter.unusedVariables false
set_option linter.unusedSimpArgs false
open Go.Proofs.Ytamcpmfimicnjaa.L

theorem Fi.sense_res {x y : S31} {ws : Bool} {p v E : Int} (h : Fi.sense x ws p v = (y, E)) : (E = 0 → Fi.P y) ∧ (E ≠ 0 → y = z31) := by
  constructor
  · intro hE
    subst hE
    cases ws with
    | true =>
      obtain ⟨hP, hp⟩ := Fi.sense_wof h
      obtain rfl : _ = y := (Prod.mk.inj ((Fi.sense_w hP hp).symm.trans h)).1
      exact Fi.P_f4 hP (L := x.f4.set (p - x.f0.f3.f0).toNat (v % 65536)) (by simp)
    | false =>
      obtain ⟨hP, hp⟩ := Fi.sense_bof h
      obtain rfl : _ = y := (Prod.mk.inj ((Fi.sense_b hP hp).symm.trans h)).1
      exact Fi.P_f2 hP (L := x.f2.set (p - x.f0.f1.f0).toNat (v != 0)) (by simp)
  · intro hE
    unfold Fi.sense at h
    split at h
    · split at h
      · split at h
        · injection h with h1 h2; exact absurd h2.symm hE
        · injection h with h1 h2; exact h1.symm
      · split at h
        · injection h with h1 h2; exact absurd h2.symm hE
        · injection h with h1 h2; exact h1.symm
    · injection h with h1 h2; exact h1.symm
theorem Fi.fit_res {y : S31} {E : Int} (h : (E = 0 → Fi.P y) ∧ (E ≠ 0 → y = z31)) : Fi.Fit y := by
  by_cases hE : E = 0
  · exact Fi.P_Fit (h.1 hE)
  · rw [h.2 hE]; exact Fi.Fit_z
def Fi.opR (x : S31) (k p v : Int) (m : List Bool) (l : List Int) : S31 × Int := if k = 0 then Fi.setBits x p m else if k = 1 then Fi.setWords x p l else if k = 2 then Fi.sense x false p v else if k = 3 then Fi.sense x true p v else (x, 0)
def Fi.opS (x : S31) (k p v : Int) (m : List Bool) (l : List Int) : S31 := if (Fi.opR x k p v m l).2 = 0 then (Fi.opR x k p v m l).1 else x
theorem Fi.op_res {x y : S31} {k p v E : Int} {m : List Bool} {l : List Int} (hP : Fi.P x) (h : Fi.opR x k p v m l = (y, E)) : (E = 0 → Fi.P y) ∧ (E ≠ 0 → y = z31) := by
  unfold Fi.opR at h
  split at h
  · exact ⟨fun hE => by subst hE; exact (Fi.setBits_ok h).2.1, fun hE => Fi.setBits_no h hE⟩
  split at h
  · exact ⟨fun hE => by subst hE; exact (Fi.setWords_ok h).2.1, fun hE => Fi.setWords_no h hE⟩
  split at h
  · exact Fi.sense_res h
  split at h
  · exact Fi.sense_res h
  · injection h with h1 h2
    subst h1
    subst h2
    exact ⟨fun _ => hP, fun hE => absurd rfl hE⟩
theorem Fi.opS_P {x : S31} {k p v : Int} {m : List Bool} {l : List Int} (hP : Fi.P x) : Fi.P (Fi.opS x k p v m l) := by
  unfold Fi.opS
  split
  · rename_i hE
    exact (Fi.op_res hP (show Fi.opR x k p v m l = ((Fi.opR x k p v m l).1, (Fi.opR x k p v m l).2) from rfl)).1 hE
  · exact hP
/-- op, of any kind. -/
theorem Fi.op {w : World} {bb : Nat} {cs : Array Value} {x : S31} (h : Fi.N w bb cs x) (hbb : bb ≤ w.heap.size) (hP : Fi.P x) {k p n v : Int} {A4 A5 : Option Addr} {c4 c5 : Nat} {m : List Bool} {l : List Int} (h4 : Kd.bool.C w A4 m.length m) (k4 : m.length ≤ c4) (h5 : (Kd.int .u16).C w A5 l.length l) (k5 : l.length ≤ c5) (hp0 : I64 p) (hv0 : I64 v) : Calls Try.prog 24 #[.agg cs, .agg #[.int .i64 k, .int .i64 p, .int .i64 n, .int .i64 v, .slice A4 m.length c4, .slice A5 l.length c5]] w fun e w' => ∃ cs', e = .returned (.tuple #[.agg cs', .bool true]) ∧ Fi.N w' bb cs' (Fi.opS x k p v m l) ∧ Below w.heap.size w w' := by
  obtain ⟨y, E, hy⟩ : ∃ y E, Fi.opR x k p v m l = (y, E) := ⟨_, _, rfl⟩
  have hf := Fi.fit_res (Fi.op_res hP hy)
  rw [show Fi.opS x k p v m l = (if E = 0 then y else x) from by unfold Fi.opS; rw [hy]]
  unfold Fi.opR at hy
  by_cases q0 : k = 0
  · subst q0; rw [if_pos rfl] at hy; exact Fi.op0 h hbb h4 k4 h5 k5 hp0 hv0 hy hf
  rw [if_neg q0] at hy
  by_cases q1 : k = 1
  · subst q1; rw [if_pos rfl] at hy; exact Fi.op1 h hbb h4 k4 h5 k5 hp0 hv0 hy hf
  rw [if_neg q1] at hy
  by_cases q2 : k = 2
  · subst q2; rw [if_pos rfl] at hy; exact Fi.op2 h hbb h4 k4 h5 k5 hp0 hv0 hy hf
  rw [if_neg q2] at hy
  by_cases q3 : k = 3
  · subst q3; rw [if_pos rfl] at hy; exact Fi.op3 h hbb h4 k4 h5 k5 hp0 hv0 hy hf
  rw [if_neg q3] at hy
  obtain ⟨rfl, rfl⟩ := Prod.mk.inj hy
  rw [if_pos rfl]
  exact Fi.op9 h hbb (by simpa using q0) (by simpa using q1) (by simpa using q2) (by simpa using q3) (Fi.P_Fit hP)

end Go.Proofs.Ytamcpmfimicnjaa.P
