/- The pure statement of ValueScales: any number by any fraction; by 1 it stays, by its other sign it is the other one. -/
import Derived.Test.YtnaedmakkefdfaaPx5
import Derived.Test.YtnaedmakkefdfaaPx3
import Derived.Test.YtnaedmakkefdfaaLBase
namespace Go.Proofs.Ytnaedmakkefdfaa.Pure
open Go.RowKit Go.Proofs.Ytnaedmakkefdfaa.P Go.Proofs.YtnaedmakkefdfaaW.PrintWords Go.Proofs.YtnaedmakkefdfaaW.PrintLast Go.Proofs.YtnaedmakkefdfaaW.PrintMore Go.Proofs.Ytnaedmakkefdfaa.L
set_option maxRecDepth 100000 in
theorem sure40s : ∃ K, ∀ k, K ≤ k → bilgelaw40_sure.f k = some true :=
  Ev.of (g := fun k => bilgelaw40_sure.f k) (fun k => bilgelaw40_sure.mono k) (k := 40) (by decide +kernel)
abbrev Big (p : Int) : Prop := -4611686018427387904 ≤ p ∧ p ≤ 4611686018427387904
abbrev Mid (b : Int) : Prop := -2147483648 ≤ b ∧ b ≤ 2147483647
/-- A fraction, rounded to the nearest, halves away from 0. -/
def scl (p b : Int) : Int := if (b : Int).natAbs ≤ 2 * (Int.tmod p b).natAbs then (if (decide (p < 0) = decide (b < 0)) then Int.tdiv p b + 1 else Int.tdiv p b - 1) else Int.tdiv p b
theorem tmod_lt {p b : Int} (hb : b ≠ 0) : (Int.tmod p b).natAbs < b.natAbs := by
  rw [Int.natAbs_tmod]
  exact Nat.mod_lt _ (Int.natAbs_pos.mpr hb)
theorem tdiv_le {p b : Int} : (Int.tdiv p b).natAbs ≤ p.natAbs := by
  rw [Int.natAbs_tdiv]
  exact Nat.div_le_self _ _
theorem mx_abs (x : Int) : mx x (-x) = (x.natAbs : Int) := by rw [mx_eq]; omega
theorem res_eq {p b : Int} (hp : Big p) (hb : Mid b) (h0 : b ≠ 0) : value_Scale.res p b = scl p b := by
  have h1 := tmod_lt (p := p) h0
  have h2 := tdiv_le (p := p) (b := b)
  unfold value_Scale.res scl
  simp only [i64_w]
  generalize Int.tmod p b = r at *
  generalize Int.tdiv p b = q at *
  rw [w64 (x := -r) (by constructor <;> omega), w64 (x := -b) (by constructor <;> omega), mx_abs, mx_abs, w64 (x := 2 * (r.natAbs : Int)) (by constructor <;> omega), w64 (x := q) (by constructor <;> omega), w64 (x := q + 1) (by constructor <;> omega), w64 (x := q - 1) (by constructor <;> omega)]
  by_cases h : b.natAbs ≤ 2 * r.natAbs
  · rw [if_pos h, if_pos (show 2 * (r.natAbs : Int) ≥ (b.natAbs : Int) by omega)]
  · rw [if_neg h, if_neg (show ¬ 2 * (r.natAbs : Int) ≥ (b.natAbs : Int) by omega)]
/-- The same of two numbers that are not below 0. -/
def upN (p b : Int) : Int := if b ≤ 2 * (p % b) then p / b + 1 else p / b
theorem up_eq {p b : Int} (hp : 0 ≤ p ∧ p ≤ 4611686018427387904) (hb : 1 ≤ b ∧ b ≤ 2147483648) : bilgeref40_Scale.up p b = upN p b := by
  unfold bilgeref40_Scale.up upN
  rw [Int.tmod_eq_emod_of_nonneg hp.1, Int.tdiv_eq_ediv_of_nonneg hp.1]
  have h1 := Int.emod_lt_of_pos p (show 0 < b by omega)
  have h2 := Int.emod_nonneg p (show b ≠ 0 by omega)
  have h3 : 0 ≤ p / b := Int.ediv_nonneg hp.1 (by omega)
  have h4 : p / b ≤ p := Int.ediv_le_self b hp.1
  generalize p % b = r at *
  generalize p / b = q at *
  rw [w64 (x := 2 * r) (by constructor <;> omega), w64 (x := q) (by constructor <;> omega), w64 (x := q + 1) (by constructor <;> omega)]
theorem upN_le {p b : Int} (hp : 0 ≤ p ∧ p ≤ 4611686018427387904) (hb : 1 ≤ b ∧ b ≤ 2147483648) : 0 ≤ upN p b ∧ upN p b ≤ p + 1 := by
  have h3 : 0 ≤ p / b := Int.ediv_nonneg hp.1 (by omega)
  have h4 : p / b ≤ p := Int.ediv_le_self b hp.1
  unfold upN
  split <;> omega
theorem scl_pp {p b : Int} (hp : 0 ≤ p) (hb : 1 ≤ b) : scl p b = upN p b := by
  have h2 := Int.emod_nonneg p (show b ≠ 0 by omega)
  unfold scl upN
  rw [Int.tmod_eq_emod_of_nonneg hp, Int.tdiv_eq_ediv_of_nonneg hp]
  generalize p % b = r at *
  have e1 : decide (p < 0) = decide (b < 0) := by rw [decide_eq_false (by omega), decide_eq_false (by omega)]
  rw [if_pos e1]
  by_cases h : b ≤ 2 * r
  · rw [if_pos h, if_pos (by omega)]
  · rw [if_neg h, if_neg (by omega)]
theorem scl_flip {p b : Int} (hp : p ≠ 0) (h0 : b ≠ 0) : scl (-p) b = -(scl p b) ∧ scl p (-b) = -(scl p b) := by
  unfold scl
  rw [Int.neg_tdiv, Int.neg_tmod, Int.tdiv_neg, Int.tmod_neg, Int.natAbs_neg, Int.natAbs_neg]
  have e1 : (decide (-p < 0) = decide (b < 0)) ↔ ¬ (decide (p < 0) = decide (b < 0)) := by
    by_cases a1 : p < 0 <;> by_cases a2 : b < 0
    · simp [a1, a2]; omega
    · simp [a1, a2]; omega
    · simp [a1, a2]; omega
    · simp [a1, a2]; omega
  have e2 : (decide (p < 0) = decide (-b < 0)) ↔ ¬ (decide (p < 0) = decide (b < 0)) := by
    by_cases a1 : p < 0 <;> by_cases a2 : b < 0
    · simp [a1, a2]; omega
    · simp [a1, a2]; omega
    · simp [a1, a2]; omega
    · simp [a1, a2]; omega
  by_cases h : b.natAbs ≤ 2 * (Int.tmod p b).natAbs
  · rw [if_pos h, if_pos h, if_pos h]
    by_cases g : decide (p < 0) = decide (b < 0)
    · rw [if_pos g, if_neg (fun x => e1.mp x g), if_neg (fun x => e2.mp x g)]
      constructor <;> omega
    · rw [if_neg g, if_pos (e1.mpr g), if_pos (e2.mpr g)]
      constructor <;> omega
  · rw [if_neg h, if_neg h, if_neg h]
    exact ⟨rfl, rfl⟩
theorem scl_zero {b : Int} (h0 : b ≠ 0) : scl 0 b = 0 := by
  unfold scl
  rw [Int.zero_tmod, Int.zero_tdiv, if_neg (by omega)]
theorem upN_zero {b : Int} (hb : 1 ≤ b) : upN 0 b = 0 := by
  unfold upN
  rw [Int.zero_emod, Int.zero_ediv, if_neg (by omega)]
theorem rres_eq {p b : Int} (hp : Big p) (hb : Mid b) (h0 : b ≠ 0) : bilgeref40_Scale.res p b = scl p b := by
  by_cases h1 : p < 0
  · have u1 : 0 ≤ -p ∧ -p ≤ 4611686018427387904 := by omega
    by_cases h2 : b < 0
    · rw [bilgeref40_Scale.nn h1 h2, w64 (by constructor <;> omega), w64 (by constructor <;> omega), up_eq u1 (by omega), ← scl_pp u1.1 (by omega), (scl_flip (by omega) (by omega)).1, (scl_flip (by omega) (by omega)).2]
      omega
    · have u2 := upN_le u1 (show 1 ≤ b ∧ b ≤ 2147483648 by omega)
      rw [bilgeref40_Scale.np h1 h2, w64 (x := -p) (by constructor <;> omega), up_eq u1 (by omega), w64 (by constructor <;> omega), ← scl_pp u1.1 (by omega), (scl_flip (by omega) (by omega)).1]
      omega
  · have u1 : 0 ≤ p ∧ p ≤ 4611686018427387904 := by omega
    by_cases h2 : b < 0
    · have u2 := upN_le u1 (show 1 ≤ -b ∧ -b ≤ 2147483648 by omega)
      rw [bilgeref40_Scale.pn h1 h2, w64 (x := -b) (by constructor <;> omega), up_eq u1 (by omega), w64 (by constructor <;> omega), ← scl_pp u1.1 (by omega)]
      by_cases h3 : p = 0
      · rw [h3, scl_zero (by omega), scl_zero h0]; rfl
      · rw [(scl_flip h3 h0).2]
        omega
    · rw [bilgeref40_Scale.pp h1 h2, up_eq u1 (by omega), ← scl_pp u1.1 (by omega)]
theorem scl_same {n b : Int} (h0 : b ≠ 0) : scl (n * b) b = n := by
  unfold scl
  rw [Int.mul_tmod_left, Int.mul_tdiv_cancel _ h0, if_neg (by omega)]
theorem mul_big {a b : Int} (ha : Mid a) (hb : Mid b) : Big (a * b) := by
  have h1 : (a * b).natAbs = a.natAbs * b.natAbs := Int.natAbs_mul a b
  have h2 : a.natAbs * b.natAbs ≤ 2147483648 * 2147483648 := Nat.mul_le_mul (by omega) (by omega)
  omega

theorem ValueScales : bilgelaw40_ValueScales.Pure := by
  intro n a b hn ha hb
  obtain ⟨K, hK⟩ := sure40s
  refine ⟨K + 10, ?_⟩
  unfold bilgelaw40_ValueScales.f value_Scale.f bilgeref40_Scale.f
  by_cases h1 : bilgeref40_Scale.ok n a b
  · have h1' := h1
    unfold bilgeref40_Scale.ok at h1'
    have hn' : Mid n := by omega
    have ha' : Mid a := by omega
    have hb' : Mid b := by omega
    have h0 : b ≠ 0 := by omega
    have p1 := mul_big hn' ha'
    have p2 := mul_big hn' hb'
    have g : ∀ x, Mid x → value_Scale.ok x := fun x hx => hx
    rw [if_pos ⟨g n hn', g a ha', g b hb'⟩, if_neg h0, if_pos h1, Option.bind_some, Option.bind_some, i64_w, w64 (by constructor <;> omega), res_eq p1 hb' h0, rres_eq p1 hb' h0, if_pos rfl]
    simp only [bilgelaw40_ValueScales.j0, bne_self_eq_false, Bool.false_eq_true, if_false, if_true]
    unfold value_Scale.f
    rw [if_pos ⟨g n hn', g b hb', g b hb'⟩, if_neg h0, Option.bind_some, i64_w, w64 (by constructor <;> omega), res_eq p2 hb' h0, scl_same h0, if_pos rfl]
    simp only [bilgelaw40_ValueScales.j1, bne_self_eq_false, Bool.false_eq_true, if_false]
    by_cases h2 : a = -2147483648
    · rw [if_pos h2, hK _ (by omega)]; rfl
    · have ha2 : Mid (-a) := by omega
      have p3 := mul_big hn' ha2
      unfold value_Scale.f
      rw [if_neg h2, w64 (x := -a) (by constructor <;> omega), if_pos ⟨g n hn', g (-a) ha2, g b hb'⟩, if_neg h0, Option.bind_some, if_pos rfl, i64_w, w64 (by constructor <;> omega), res_eq p3 hb' h0, Int.mul_neg]
      have e : scl (-(n * a)) b = -(scl (n * a) b) := by
        by_cases h3 : n * a = 0
        · rw [h3, Int.neg_zero, scl_zero h0]; rfl
        · exact (scl_flip h3 h0).1
      have hs2 : -9223372036854775808 < scl (n * a) b ∧ scl (n * a) b ≤ 9223372036854775807 := by
        have h2 := tdiv_le (p := n * a) (b := b)
        unfold scl
        split
        · split <;> omega
        · omega
      rw [e, w64 (by constructor <;> omega), if_pos rfl, hK _ (by omega)]
      rfl
  · have e1 : (if value_Scale.ok n ∧ value_Scale.ok a ∧ value_Scale.ok b then (if b = 0 then ((0 : Int), (11 : Int)) else (value_Scale.res (IntKind.i64.wrap (n * a)) b, 0)) else (0, 11)) = (0, 11) := by
      by_cases h2 : value_Scale.ok n ∧ value_Scale.ok a ∧ value_Scale.ok b
      · rw [if_pos h2]
        by_cases h3 : b = 0
        · rw [if_pos h3]
        · exfalso
          apply h1
          unfold value_Scale.ok at h2
          unfold bilgeref40_Scale.ok
          omega
      · rw [if_neg h2]
    rw [e1, if_neg h1, Option.bind_some, Option.bind_some, if_pos rfl]
    simp only [bilgelaw40_ValueScales.j0, bne_self_eq_false, Bool.false_eq_true, if_false]
    rw [if_neg (by decide), hK _ (by omega)]
    rfl
end Go.Proofs.Ytnaedmakkefdfaa.Pure
