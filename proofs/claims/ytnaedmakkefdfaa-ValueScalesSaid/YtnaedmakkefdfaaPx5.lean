-- Written by the session's own turn of the kit's print program (wip/patch_print.py). Not trusted: Lean checks it.
import Derived.Test.YtnaedmakkefdfaaPx0
import Derived.Test.YtnaedmakkefdfaaPx3
namespace Go.Proofs.Ytnaedmakkefdfaa.P
open Go.RowKit Go.Proofs.YtnaedmakkefdfaaW.PrintWords Go.Proofs.YtnaedmakkefdfaaW.PrintLast Go.Proofs.YtnaedmakkefdfaaW.PrintMore
attribute [local go_sem] max2_int min2_int max_two min_two max_three min_three max_four min_four   -- for this text's walks alone
set_option linter.unusedVariables false
set_option linter.unusedSimpArgs false

/-! ### bilgeref40_Scale: function 35 -/
def bilgeref40_Scale.ok (a0 a1 a2 : Int) : Prop := -2147483648 ≤ a0 ∧ a0 ≤ 2147483647 ∧ -2147483648 ≤ a1 ∧ a1 ≤ 2147483647 ∧ -2147483648 ≤ a2 ∧ a2 ≤ 2147483647 ∧ a2 ≠ 0
instance (a0 a1 a2 : Int) : Decidable (bilgeref40_Scale.ok a0 a1 a2) := by unfold bilgeref40_Scale.ok; infer_instance
/-- The fraction of two numbers that are not below 0, rounded. -/
def bilgeref40_Scale.up (p b : Int) : Int := if wrap64 (2 * Int.tmod p b) ≥ b then wrap64 (wrap64 (Int.tdiv p b) + 1) else wrap64 (Int.tdiv p b)
def bilgeref40_Scale.res (p b : Int) : Int :=
  if p < 0 then (if b < 0 then bilgeref40_Scale.up (wrap64 (-p)) (wrap64 (-b)) else wrap64 (-(bilgeref40_Scale.up (wrap64 (-p)) b))) else (if b < 0 then wrap64 (-(bilgeref40_Scale.up p (wrap64 (-b)))) else bilgeref40_Scale.up p b)
def bilgeref40_Scale.f (a0 a1 a2 : Int) : Option (Int × Int) := some (if bilgeref40_Scale.ok a0 a1 a2 then (bilgeref40_Scale.res (wrap64 (a0 * a1)) a2, 0) else (0, 11))
theorem bilgeref40_Scale.yes {p b : Int} (h : wrap64 (2 * Int.tmod p b) ≥ b) : wrap64 (wrap64 (Int.tdiv p b) + 1) = bilgeref40_Scale.up p b := by unfold bilgeref40_Scale.up; rw [if_pos h]
theorem bilgeref40_Scale.no {p b : Int} (h : wrap64 (2 * Int.tmod p b) < b) : wrap64 (Int.tdiv p b) = bilgeref40_Scale.up p b := by unfold bilgeref40_Scale.up; rw [if_neg (by omega)]
theorem bilgeref40_Scale.pp {p b : Int} (hp : ¬ p < 0) (hb : ¬ b < 0) : bilgeref40_Scale.res p b = bilgeref40_Scale.up p b := by unfold bilgeref40_Scale.res; rw [if_neg hp, if_neg hb]
theorem bilgeref40_Scale.pn {p b : Int} (hp : ¬ p < 0) (hb : b < 0) : bilgeref40_Scale.res p b = wrap64 (-(bilgeref40_Scale.up p (wrap64 (-b)))) := by unfold bilgeref40_Scale.res; rw [if_neg hp, if_pos hb]
theorem bilgeref40_Scale.np {p b : Int} (hp : p < 0) (hb : ¬ b < 0) : bilgeref40_Scale.res p b = wrap64 (-(bilgeref40_Scale.up (wrap64 (-p)) b)) := by unfold bilgeref40_Scale.res; rw [if_pos hp, if_neg hb]
theorem bilgeref40_Scale.nn {p b : Int} (hp : p < 0) (hb : b < 0) : bilgeref40_Scale.res p b = bilgeref40_Scale.up (wrap64 (-p)) (wrap64 (-b)) := by unfold bilgeref40_Scale.res; rw [if_pos hp, if_pos hb]
theorem bilgeref40_Scale.ways (p1 p2 p3 p4 p5 p6 p7 : Bool) : p1 = true ∨ (p1 = false ∧ p2 = true) ∨ (p1 = false ∧ p2 = false ∧ p3 = true) ∨ (p1 = false ∧ p2 = false ∧ p3 = false ∧ p4 = true) ∨ (p1 = false ∧ p2 = false ∧ p3 = false ∧ p4 = false ∧ p5 = true) ∨ (p1 = false ∧ p2 = false ∧ p3 = false ∧ p4 = false ∧ p5 = false ∧ p6 = true) ∨ (p1 = false ∧ p2 = false ∧ p3 = false ∧ p4 = false ∧ p5 = false ∧ p6 = false ∧ p7 = true) ∨ (p1 = false ∧ p2 = false ∧ p3 = false ∧ p4 = false ∧ p5 = false ∧ p6 = false ∧ p7 = false) := by
  cases p1 <;> cases p2 <;> cases p3 <;> cases p4 <;> cases p5 <;> cases p6 <;> cases p7 <;> simp
set_option maxHeartbeats 4000000 in
set_option maxRecDepth 100000 in
theorem bilgeref40_Scale.calls (a0 : Int) (a1 : Int) (a2 : Int) (r1 : Int) (r2 : Int) (w : World) (h : bilgeref40_Scale.f a0 a1 a2 = some (r1, r2)) :
    Calls Try.prog 35 #[.int .i64 a0, .int .i64 a1, .int .i64 a2] w fun e w' => e = .returned (.tuple #[.int .i64 r1, .int .i64 r2]) ∧ Below w.heap.size w w' := by
  unfold bilgeref40_Scale.f at h
  have H := Aside0.mk (Option.some.inj h)
  clear h
  rcases bilgeref40_Scale.ways (decide (a0 < -2147483648)) (decide (a0 > 2147483647)) (decide (a1 < -2147483648)) (decide (a1 > 2147483647)) (decide (a2 < -2147483648)) (decide (a2 > 2147483647)) (a2 == 0) with d1 | ⟨d1, d2⟩ | ⟨d1, d2, d3⟩ | ⟨d1, d2, d3, d4⟩ | ⟨d1, d2, d3, d4, d5⟩ | ⟨d1, d2, d3, d4, d5, d6⟩ | ⟨d1, d2, d3, d4, d5, d6, d7⟩ | ⟨d1, d2, d3, d4, d5, d6, d7⟩
  · have E : (r1, r2) = (0, 11) := by
      rw [← H.out, if_neg]
      intro h
      unfold bilgeref40_Scale.ok at h
      simp only [decide_eq_true_eq, beq_iff_eq] at *
      omega
    injection E with e1 e2
    subst e1
    subst e2
    clear H
    go_enter Try.func35, Try.ntmps35
    go_wp2
    all_goals
      go_ret2
      exact ⟨rfl, Below.refl _ _⟩
  · have E : (r1, r2) = (0, 11) := by
      rw [← H.out, if_neg]
      intro h
      unfold bilgeref40_Scale.ok at h
      simp only [decide_eq_true_eq, beq_iff_eq] at *
      omega
    injection E with e1 e2
    subst e1
    subst e2
    clear H
    go_enter Try.func35, Try.ntmps35
    go_wp2
    all_goals
      go_ret2
      exact ⟨rfl, Below.refl _ _⟩
  · have E : (r1, r2) = (0, 11) := by
      rw [← H.out, if_neg]
      intro h
      unfold bilgeref40_Scale.ok at h
      simp only [decide_eq_true_eq, beq_iff_eq] at *
      omega
    injection E with e1 e2
    subst e1
    subst e2
    clear H
    go_enter Try.func35, Try.ntmps35
    go_wp2
    all_goals
      go_ret2
      exact ⟨rfl, Below.refl _ _⟩
  · have E : (r1, r2) = (0, 11) := by
      rw [← H.out, if_neg]
      intro h
      unfold bilgeref40_Scale.ok at h
      simp only [decide_eq_true_eq, beq_iff_eq] at *
      omega
    injection E with e1 e2
    subst e1
    subst e2
    clear H
    go_enter Try.func35, Try.ntmps35
    go_wp2
    all_goals
      go_ret2
      exact ⟨rfl, Below.refl _ _⟩
  · have E : (r1, r2) = (0, 11) := by
      rw [← H.out, if_neg]
      intro h
      unfold bilgeref40_Scale.ok at h
      simp only [decide_eq_true_eq, beq_iff_eq] at *
      omega
    injection E with e1 e2
    subst e1
    subst e2
    clear H
    go_enter Try.func35, Try.ntmps35
    go_wp2
    all_goals
      go_ret2
      exact ⟨rfl, Below.refl _ _⟩
  · have E : (r1, r2) = (0, 11) := by
      rw [← H.out, if_neg]
      intro h
      unfold bilgeref40_Scale.ok at h
      simp only [decide_eq_true_eq, beq_iff_eq] at *
      omega
    injection E with e1 e2
    subst e1
    subst e2
    clear H
    go_enter Try.func35, Try.ntmps35
    go_wp2
    all_goals
      go_ret2
      exact ⟨rfl, Below.refl _ _⟩
  · have E : (r1, r2) = (0, 11) := by
      rw [← H.out, if_neg]
      intro h
      unfold bilgeref40_Scale.ok at h
      simp only [decide_eq_true_eq, beq_iff_eq] at *
      omega
    injection E with e1 e2
    subst e1
    subst e2
    clear H
    go_enter Try.func35, Try.ntmps35
    go_wp2
    all_goals
      go_ret2
      exact ⟨rfl, Below.refl _ _⟩
  have B : bilgeref40_Scale.ok a0 a1 a2 := by
    unfold bilgeref40_Scale.ok
    simp only [decide_eq_false_iff_not, beq_eq_false_iff_ne] at d1 d2 d3 d4 d5 d6 d7
    omega
  have E : (r1, r2) = (bilgeref40_Scale.res (wrap64 (a0 * a1)) a2, 0) := by rw [← H.out, if_pos B]
  injection E with e1 e2
  subst e1
  subst e2
  have B2 := B
  unfold bilgeref40_Scale.ok at B2
  have hz : (wrap64 (-a2) == 0) = false := by
    rw [beq_eq_false_iff_ne]
    unfold wrap64
    omega
  have hz2 : ¬ wrap64 (-a2) = 0 := by simpa using hz
  have c0 : ¬ a2 = 0 := by simpa using d7
  clear B B2 H
  by_cases hp : wrap64 (a0 * a1) < 0
  · have p1 : decide (wrap64 (a0 * a1) < 0) = true := decide_eq_true hp
    have HP := Aside0.mk hp
    clear hp
    by_cases hb : a2 < 0
    · have p2 : decide (a2 < 0) = true := decide_eq_true hb
      have HQ := Aside0.mk hb
      clear hb
      rw [bilgeref40_Scale.nn HP.out HQ.out]
      go_enter Try.func35, Try.ntmps35
      go_wp2
      all_goals
        go_ret2
        refine ⟨?_, Below.refl _ _⟩
        refine congrArg (fun z => Ending.returned (.tuple #[.int .i64 z, .int .i64 0])) ?_
        first | exact bilgeref40_Scale.yes (by assumption) | exact bilgeref40_Scale.no (by assumption)
    · have p2 : decide (a2 < 0) = false := decide_eq_false hb
      have HQ := Aside0.mk hb
      clear hb
      rw [bilgeref40_Scale.np HP.out HQ.out]
      go_enter Try.func35, Try.ntmps35
      go_wp2
      all_goals
        go_ret2
        refine ⟨?_, Below.refl _ _⟩
        refine congrArg (fun z => Ending.returned (.tuple #[.int .i64 z, .int .i64 0])) ?_
        first | rw [← bilgeref40_Scale.yes (by assumption)] | rw [← bilgeref40_Scale.no (by assumption)]
  · have p1 : decide (wrap64 (a0 * a1) < 0) = false := decide_eq_false hp
    have HP := Aside0.mk hp
    clear hp
    by_cases hb : a2 < 0
    · have p2 : decide (a2 < 0) = true := decide_eq_true hb
      have HQ := Aside0.mk hb
      clear hb
      rw [bilgeref40_Scale.pn HP.out HQ.out]
      go_enter Try.func35, Try.ntmps35
      go_wp2
      all_goals
        go_ret2
        refine ⟨?_, Below.refl _ _⟩
        refine congrArg (fun z => Ending.returned (.tuple #[.int .i64 z, .int .i64 0])) ?_
        first | rw [← bilgeref40_Scale.yes (by assumption)] | rw [← bilgeref40_Scale.no (by assumption)]
    · have p2 : decide (a2 < 0) = false := decide_eq_false hb
      have HQ := Aside0.mk hb
      clear hb
      rw [bilgeref40_Scale.pp HP.out HQ.out]
      go_enter Try.func35, Try.ntmps35
      go_wp2
      all_goals
        go_ret2
        refine ⟨?_, Below.refl _ _⟩
        refine congrArg (fun z => Ending.returned (.tuple #[.int .i64 z, .int .i64 0])) ?_
        first | exact bilgeref40_Scale.yes (by assumption) | exact bilgeref40_Scale.no (by assumption)

/-! ### bilgelaw40_ValueScales: function 7 -/
mutual
def bilgelaw40_ValueScales.j0 : Nat → Int → Int → Int → Int → Int → Bool → Option (Bool)
 | 0, _, _, _, _, _, _ => none
 | k + 1, x0, x1, x2, x7, x8, x36 => if x36 = true then (none) else (if x8 = 0 then ((value_Scale.f x0 x2 x2).bind fun bt204 => (if bt204.2 = 0 then (bilgelaw40_ValueScales.j1 k x0 x1 x2 x7 (bt204.1 != x0)) else (bilgelaw40_ValueScales.j1 k x0 x1 x2 x7 true))) else ((bilgelaw40_sure.f k).bind fun t203 => (some t203)))
def bilgelaw40_ValueScales.j1 : Nat → Int → Int → Int → Int → Bool → Option (Bool)
 | 0, _, _, _, _, _ => none
 | k + 1, x0, x1, x2, x7, x53 => if x53 = true then (none) else (if x1 = (-2147483648) then ((bilgelaw40_sure.f k).bind fun t206 => (some t206)) else ((value_Scale.f x0 (wrap64 (-x1)) x2).bind fun bt207 => (if bt207.2 = 0 then (if bt207.1 = (wrap64 (-x7)) then ((bilgelaw40_sure.f k).bind fun t209 => (some t209)) else (none)) else (none))))
end
def bilgelaw40_ValueScales.f (k : Nat) (a0 : Int) (a1 : Int) (a2 : Int) : Option (Bool) := (value_Scale.f a0 a1 a2).bind fun bt199 => ((bilgeref40_Scale.f a0 a1 a2).bind fun bt201 => (if bt199.1 = bt201.1 then (bilgelaw40_ValueScales.j0 k a0 a1 a2 bt199.1 bt199.2 (bt199.2 != bt201.2)) else (bilgelaw40_ValueScales.j0 k a0 a1 a2 bt199.1 bt199.2 true)))
theorem bilgelaw40_ValueScales.mono_l : ∀ k, (∀ y0 y1 y2 y3 y4 y5, LeO (bilgelaw40_ValueScales.j0 k y0 y1 y2 y3 y4 y5) (bilgelaw40_ValueScales.j0 (k + 1) y0 y1 y2 y3 y4 y5)) ∧ (∀ y0 y1 y2 y3 y4, LeO (bilgelaw40_ValueScales.j1 k y0 y1 y2 y3 y4) (bilgelaw40_ValueScales.j1 (k + 1) y0 y1 y2 y3 y4))
 | 0 => ⟨fun _ _ _ _ _ _ r h => by simp [bilgelaw40_ValueScales.j0] at h, fun _ _ _ _ _ r h => by simp [bilgelaw40_ValueScales.j1] at h⟩
 | k + 1 => by
  obtain ⟨ih0, ih1⟩ := bilgelaw40_ValueScales.mono_l k
  refine ⟨?_, ?_⟩
  ·intro y0 y1 y2 y3 y4 y5
   unfold bilgelaw40_ValueScales.j0
   repeat' first
   | (with_reducible exact ih0 _ _ _ _ _ _)
   | (with_reducible exact ih1 _ _ _ _ _)
   | (with_reducible exact bilgelaw40_sure.mono _)
   | (with_reducible exact LeO.refl _)
   | (with_reducible exact LeO.none _)
   | (with_reducible refine LeO.ite ?_ ?_)
   | (with_reducible refine LeO.bind ?_ (fun _ => ?_))
   | exact ih0 _ _ _ _ _ _
   | exact ih1 _ _ _ _ _
   | exact bilgelaw40_sure.mono _
   | exact LeO.none _
   | refine LeO.ite ?_ ?_
   | refine LeO.bind ?_ (fun _ => ?_)
  ·intro y0 y1 y2 y3 y4
   unfold bilgelaw40_ValueScales.j1
   repeat' first
   | (with_reducible exact ih0 _ _ _ _ _ _)
   | (with_reducible exact ih1 _ _ _ _ _)
   | (with_reducible exact bilgelaw40_sure.mono _)
   | (with_reducible exact LeO.refl _)
   | (with_reducible exact LeO.none _)
   | (with_reducible refine LeO.ite ?_ ?_)
   | (with_reducible refine LeO.bind ?_ (fun _ => ?_))
   | exact ih0 _ _ _ _ _ _
   | exact ih1 _ _ _ _ _
   | exact bilgelaw40_sure.mono _
   | exact LeO.none _
   | refine LeO.ite ?_ ?_
   | refine LeO.bind ?_ (fun _ => ?_)
theorem bilgelaw40_ValueScales.mono : ∀ a0 a1 a2 k, LeO (bilgelaw40_ValueScales.f k a0 a1 a2) (bilgelaw40_ValueScales.f (k + 1) a0 a1 a2) := by
 intro a0 a1 a2 k
 obtain ⟨ih0, ih1⟩ := bilgelaw40_ValueScales.mono_l k
 unfold bilgelaw40_ValueScales.f
 repeat' first
   | (with_reducible exact ih0 _ _ _ _ _ _)
   | (with_reducible exact ih1 _ _ _ _ _)
   | (with_reducible exact bilgelaw40_sure.mono _)
   | (with_reducible exact LeO.refl _)
   | (with_reducible exact LeO.none _)
   | (with_reducible refine LeO.ite ?_ ?_)
   | (with_reducible refine LeO.bind ?_ (fun _ => ?_))
   | exact ih0 _ _ _ _ _ _
   | exact ih1 _ _ _ _ _
   | exact bilgelaw40_sure.mono _
   | exact LeO.none _
   | refine LeO.ite ?_ ?_
   | refine LeO.bind ?_ (fun _ => ?_)
set_option maxHeartbeats 8000000 in
set_option maxRecDepth 100000 in
theorem bilgelaw40_ValueScales.calls (k : Nat) (a0 : Int) (a1 : Int) (a2 : Int) (r : Bool) (w : World) (h : bilgelaw40_ValueScales.f k a0 a1 a2 = some r) :
  Calls Try.prog 7 #[.int .i64 a0, .int .i64 a1, .int .i64 a2] w fun e w' => e = .returned (.bool r) ∧ Below w.heap.size w w' := by
 have HB := Aside0.mk (Below.refl w.heap.size w)
 have H : ((value_Scale.f a0 a1 a2).bind fun bt199 => ((bilgeref40_Scale.f a0 a1 a2).bind fun bt201 => (if bt199.1 = bt201.1 then (bilgelaw40_ValueScales.j0 k a0 a1 a2 bt199.1 bt199.2 (bt199.2 != bt201.2)) else (bilgelaw40_ValueScales.j0 k a0 a1 a2 bt199.1 bt199.2 true)))) = some r := h
 clear h
 replace H := Option.bind_eq_some_iff.mp H
 obtain ⟨⟨t199, t200⟩, A40, H⟩ := H
 replace H : ((bilgeref40_Scale.f a0 a1 a2).bind fun bt201 => (if t199 = bt201.1 then (bilgelaw40_ValueScales.j0 k a0 a1 a2 t199 t200 (t200 != bt201.2)) else (bilgelaw40_ValueScales.j0 k a0 a1 a2 t199 t200 true))) = some r := H
 have A4 := Aside0.mk A40
 clear A40
 replace H := Option.bind_eq_some_iff.mp H
 obtain ⟨⟨t201, t202⟩, A50, H⟩ := H
 replace H : (if t199 = t201 then (bilgelaw40_ValueScales.j0 k a0 a1 a2 t199 t200 (t200 != t202)) else (bilgelaw40_ValueScales.j0 k a0 a1 a2 t199 t200 true)) = some r := H
 have A5 := Aside0.mk A50
 clear A50
 have HC6 := Aside0.mk H
 clear H
 go_enter Try.func7, Try.ntmps7
 go_upto_region 3 with (first | ((with_reducible refine gate_callee (f := 34) rfl ?_); refine goesL_ (some 19) rfl rfl Try.func34 (by kernel_rfl) rfl #[.int .i64 a0, .int .i64 a1, .int .i64 a2] rfl (by (try simp only [List.map_toArray, List.map_cons, List.map_nil]); first | done | rfl | (simp only [List.length_drop, List.length_take]; rfl)) ?_; (with_reducible refine (value_Scale.calls a0 a1 a2 t199 t200 _ A4.out).mono ?_); rintro e w7 ⟨rfl, hb⟩; refine ⟨_, rfl, ?_⟩; have n0_ := Aside0.mk (below_step (by repeat (first | (with_reducible first | exact HB.out | apply below_alloc | apply pw_below_drewN | apply below_drew1) | exact HB.out)) hb); clear HB; have HB := n0_; clear n0_; (try clear hb); (try clear hb2); (try clear hk); (try clear hi)) | ((with_reducible refine gate_callee (f := 35) rfl ?_); refine goesL_ (some 26) rfl rfl Try.func35 (by kernel_rfl) rfl #[.int .i64 a0, .int .i64 a1, .int .i64 a2] rfl (by (try simp only [List.map_toArray, List.map_cons, List.map_nil]); first | done | rfl | (simp only [List.length_drop, List.length_take]; rfl)) ?_; (with_reducible refine (bilgeref40_Scale.calls a0 a1 a2 t201 t202 _ A5.out).mono ?_); rintro e w8 ⟨rfl, hb⟩; refine ⟨_, rfl, ?_⟩; have n0_ := Aside0.mk (below_step (by repeat (first | (with_reducible first | exact HB.out | apply below_alloc | apply pw_below_drewN | apply below_drew1) | exact HB.out)) hb); clear HB; have HB := n0_; clear n0_; (try clear hb); (try clear hb2); (try clear hk); (try clear hi)))
 (try simp only [Act.put, List.setIfInBounds_toArray, List.set_cons_zero, List.set_cons_succ])
 go_cut [36] (fun v36 wc => ∃ (kq : Nat) (x36_5 : Bool), v36 = .bool x36_5 ∧ Aside0 (bilgelaw40_ValueScales.j0 kq a0 a1 a2 t199 t200 x36_5 = some r) ∧ Aside0 (kq ≤ k) ∧ Aside0 (Below w.heap.size w wc))
 case first =>
  have H := HC6.out
  clear HC6
  by_cases c9 : t199 = t201
  ·rw [if_pos c9] at H
   have c9b0 : (t199 == t201) = true := beq_iff_eq.mpr c9
   have c9b1 : (t199 != t201) = false := bne_eq_false_iff_eq.mpr c9
   clear c9
   (first | rw [c9b0] | (simp only [i64_w, i32_w]; rw [c9b0]) | skip)
   have H' := Aside0.mk H
   clear H
   go_wp2
   go_meet
   case rel => exact ⟨_, ((t200 != t202)), (by first | rfl | (simp; done) | (simp [*]; done)), H', ⟨by first | omega | exact Nat.le_refl _⟩, ⟨by repeat (first | (with_reducible first | exact HB.out | apply below_alloc | apply pw_below_drewN | apply below_drew1) | exact HB.out)⟩⟩
  ·rw [if_neg c9] at H
   have c9b0 : (t199 == t201) = false := beq_eq_false_iff_ne.mpr c9
   have c9b1 : (t199 != t201) = true := bne_iff_ne.mpr c9
   (first | rw [c9b0] | (simp only [i64_w, i32_w]; rw [c9b0]) | skip)
   have H' := Aside0.mk H
   clear H
   go_wp2
   go_meet
   case rel => exact ⟨_, (true), (by first | rfl | (simp; done) | (simp [*]; done)), H', ⟨by first | omega | exact Nat.le_refl _⟩, ⟨by repeat (first | (with_reducible first | exact HB.out | apply below_alloc | apply pw_below_drewN | apply below_drew1) | exact HB.out)⟩⟩
 case rest =>
  clear HC6
  try clear p2
  try clear c3
  try clear c7
  try clear c9
  try clear c9b0
  try clear c9b1
  obtain ⟨kq, x36_5, rfl, HA, HJ5, HB⟩ := hcut
  cases kq with
  | zero => exact absurd HA.out (by simp [bilgelaw40_ValueScales.j0])
  | succ kj5 =>
   have H := HA.out
   clear HA
   simp only [bilgelaw40_ValueScales.j0] at H
   by_cases c10 : x36_5 = true
   ·subst c10
    have H1 : (none) = some r := by rw [if_pos rfl] at H; exact H
    clear H
    have H := H1
    clear H1
    exact absurd H (by simp)
   ·replace c10 := Bool.eq_false_iff.mpr c10
    subst c10
    have H1 : (if t200 = 0 then ((value_Scale.f a0 a2 a2).bind fun bt204 => (if bt204.2 = 0 then (bilgelaw40_ValueScales.j1 kj5 a0 a1 a2 t199 (bt204.1 != a0)) else (bilgelaw40_ValueScales.j1 kj5 a0 a1 a2 t199 true))) else ((bilgelaw40_sure.f kj5).bind fun t203 => (some t203))) = some r := by rw [if_neg (show ¬ (false = true) by decide)] at H; exact H
    clear H
    have H := H1
    clear H1
    by_cases c11 : t200 = 0
    ·rw [if_pos c11] at H
     have c11b0 : (t200 == 0) = true := beq_iff_eq.mpr c11
     have c11b1 : (t200 != 0) = false := bne_eq_false_iff_eq.mpr c11
     clear c11
     replace H := Option.bind_eq_some_iff.mp H
     obtain ⟨⟨t204, t205⟩, A120, H⟩ := H
     replace H : (if t205 = 0 then (bilgelaw40_ValueScales.j1 kj5 a0 a1 a2 t199 (t204 != a0)) else (bilgelaw40_ValueScales.j1 kj5 a0 a1 a2 t199 true)) = some r := H
     have A12 := Aside0.mk A120
     clear A120
     have HC13 := Aside0.mk H
     clear H
     go_upto_region 8 with (first | ((with_reducible refine gate_callee (f := 34) rfl ?_); refine goesL_ (some 44) rfl rfl Try.func34 (by kernel_rfl) rfl #[.int .i64 a0, .int .i64 a2, .int .i64 a2] rfl (by (try simp only [List.map_toArray, List.map_cons, List.map_nil]); first | done | rfl | (simp only [List.length_drop, List.length_take]; rfl)) ?_; (with_reducible refine (value_Scale.calls a0 a2 a2 t204 t205 _ A12.out).mono ?_); rintro e w14 ⟨rfl, hb⟩; refine ⟨_, rfl, ?_⟩; have n0_ := Aside0.mk (below_step (by repeat (first | (with_reducible first | exact HB.out | apply below_alloc | apply pw_below_drewN | apply below_drew1) | exact HB.out)) hb); clear HB; have HB := n0_; clear n0_; (try clear hb); (try clear hb2); (try clear hk); (try clear hi)))
     (try simp only [Act.put, List.setIfInBounds_toArray, List.set_cons_zero, List.set_cons_succ])
     go_cut [53] (fun v53 wc => ∃ (kq : Nat) (x53_12 : Bool), v53 = .bool x53_12 ∧ Aside0 (bilgelaw40_ValueScales.j1 kq a0 a1 a2 t199 x53_12 = some r) ∧ Aside0 (kq ≤ kj5) ∧ Aside0 (Below w.heap.size w wc))
     case first =>
      have H := HC13.out
      clear HC13
      by_cases c15 : t205 = 0
      ·rw [if_pos c15] at H
       have c15b0 : (t205 == 0) = true := beq_iff_eq.mpr c15
       have c15b1 : (t205 != 0) = false := bne_eq_false_iff_eq.mpr c15
       clear c15
       (first | rw [c15b0] | (simp only [i64_w, i32_w]; rw [c15b0]) | skip)
       have H' := Aside0.mk H
       clear H
       go_wp2
       go_meet
       case rel => exact ⟨_, ((t204 != a0)), (by first | rfl | (simp; done) | (simp [*]; done)), H', ⟨by have := HJ5.out; first | omega | exact Nat.le_refl _⟩, ⟨by repeat (first | (with_reducible first | exact HB.out | apply below_alloc | apply pw_below_drewN | apply below_drew1) | exact HB.out)⟩⟩
      ·rw [if_neg c15] at H
       have c15b0 : (t205 == 0) = false := beq_eq_false_iff_ne.mpr c15
       have c15b1 : (t205 != 0) = true := bne_iff_ne.mpr c15
       (first | rw [c15b0] | (simp only [i64_w, i32_w]; rw [c15b0]) | skip)
       have H' := Aside0.mk H
       clear H
       go_wp2
       go_meet
       case rel => exact ⟨_, (true), (by first | rfl | (simp; done) | (simp [*]; done)), H', ⟨by have := HJ5.out; first | omega | exact Nat.le_refl _⟩, ⟨by repeat (first | (with_reducible first | exact HB.out | apply below_alloc | apply pw_below_drewN | apply below_drew1) | exact HB.out)⟩⟩
     case rest =>
      clear HC13
      try clear c1
      try clear p2
      try clear c3
      try clear c7
      try clear c9
      try clear c9b0
      try clear c9b1
      try clear c10
      try clear c11
      try clear c11b0
      try clear c11b1
      try clear c15
      try clear c15b0
      try clear c15b1
      try clear p2
      obtain ⟨kq, x53_12, rfl, HA, HJ12, HB⟩ := hcut
      cases kq with
      | zero => exact absurd HA.out (by simp [bilgelaw40_ValueScales.j1])
      | succ kj12 =>
       have H := HA.out
       clear HA
       simp only [bilgelaw40_ValueScales.j1] at H
       by_cases c16 : x53_12 = true
       ·subst c16
        have H1 : (none) = some r := by rw [if_pos rfl] at H; exact H
        clear H
        have H := H1
        clear H1
        exact absurd H (by simp)
       ·replace c16 := Bool.eq_false_iff.mpr c16
        subst c16
        have H1 : (if a1 = (-2147483648) then ((bilgelaw40_sure.f kj12).bind fun t206 => (some t206)) else ((value_Scale.f a0 (wrap64 (-a1)) a2).bind fun bt207 => (if bt207.2 = 0 then (if bt207.1 = (wrap64 (-t199)) then ((bilgelaw40_sure.f kj12).bind fun t209 => (some t209)) else (none)) else (none)))) = some r := by rw [if_neg (show ¬ (false = true) by decide)] at H; exact H
        clear H
        have H := H1
        clear H1
        by_cases c17 : a1 = (-2147483648)
        ·rw [if_pos c17] at H
         have c17b0 : (a1 == (-2147483648)) = true := beq_iff_eq.mpr c17
         have c17b1 : (a1 != (-2147483648)) = false := bne_eq_false_iff_eq.mpr c17
         clear c17
         replace H := Option.bind_eq_some_iff.mp H
         obtain ⟨t206, A180, H⟩ := H
         replace H : (some t206) = some r := H
         have A18 := Aside0.mk A180
         clear A180
         obtain rfl := Option.some.inj H
         go_wp2_with (first | ((with_reducible refine gate_callee (f := 28) rfl ?_); refine goesL_ (some 56) rfl rfl Try.func28 (by kernel_rfl) rfl #[] rfl (by (try simp only [List.map_toArray, List.map_cons, List.map_nil]); first | done | rfl | (simp only [List.length_drop, List.length_take]; rfl)) ?_; (with_reducible refine (bilgelaw40_sure.calls kj12  t206 _ A18.out).mono ?_); rintro e w19 ⟨rfl, hb⟩; refine ⟨_, rfl, ?_⟩; have n0_ := Aside0.mk (below_step (by repeat (first | (with_reducible first | exact HB.out | apply below_alloc | apply pw_below_drewN | apply below_drew1) | exact HB.out)) hb); clear HB; have HB := n0_; clear n0_; (try clear hb); (try clear hb2); (try clear hk); (try clear hi)))
         go_ret
         exact ⟨by first | rfl | (simp [errW_none, errW_some] <;> rfl) | (simp [*, errW_none, errW_some] <;> rfl), by repeat (first | (with_reducible first | exact HB.out | apply below_alloc | apply pw_below_drewN | apply below_drew1) | exact HB.out)⟩
        ·rw [if_neg c17] at H
         have c17b0 : (a1 == (-2147483648)) = false := beq_eq_false_iff_ne.mpr c17
         have c17b1 : (a1 != (-2147483648)) = true := bne_iff_ne.mpr c17
         replace H := Option.bind_eq_some_iff.mp H
         obtain ⟨⟨t207, t208⟩, A200, H⟩ := H
         replace H : (if t208 = 0 then (if t207 = (wrap64 (-t199)) then ((bilgelaw40_sure.f kj12).bind fun t209 => (some t209)) else (none)) else (none)) = some r := H
         have A20 := Aside0.mk A200
         clear A200
         by_cases c21 : t208 = 0
         ·rw [if_pos c21] at H
          have c21b0 : (t208 == 0) = true := beq_iff_eq.mpr c21
          have c21b1 : (t208 != 0) = false := bne_eq_false_iff_eq.mpr c21
          clear c21
          by_cases c22 : t207 = (wrap64 (-t199))
          ·rw [if_pos c22] at H
           have c22b0 : (t207 == (wrap64 (-t199))) = true := beq_iff_eq.mpr c22
           have c22b1 : (t207 != (wrap64 (-t199))) = false := bne_eq_false_iff_eq.mpr c22
           clear c22
           replace H := Option.bind_eq_some_iff.mp H
           obtain ⟨t209, A230, H⟩ := H
           replace H : (some t209) = some r := H
           have A23 := Aside0.mk A230
           clear A230
           obtain rfl := Option.some.inj H
           go_wp2_with (first | ((with_reducible refine gate_callee (f := 34) rfl ?_); refine goesL_ (some 62) rfl rfl Try.func34 (by kernel_rfl) rfl #[.int .i64 a0, .int .i64 (wrap64 (-a1)), .int .i64 a2] rfl (by (try simp only [List.map_toArray, List.map_cons, List.map_nil]); first | done | rfl | (simp only [List.length_drop, List.length_take]; rfl)) ?_; (with_reducible refine (value_Scale.calls a0 (wrap64 (-a1)) a2 t207 t208 _ A20.out).mono ?_); rintro e w24 ⟨rfl, hb⟩; refine ⟨_, rfl, ?_⟩; have n0_ := Aside0.mk (below_step (by repeat (first | (with_reducible first | exact HB.out | apply below_alloc | apply pw_below_drewN | apply below_drew1) | exact HB.out)) hb); clear HB; have HB := n0_; clear n0_; (try clear hb); (try clear hb2); (try clear hk); (try clear hi)) | (go_at_call 28; (with_reducible refine (bilgelaw40_sure.calls kj12  t209 _ A23.out).mono ?_); rintro e w25 ⟨rfl, hb⟩; have n0_ := Aside0.mk (below_step (by repeat (first | (with_reducible first | exact HB.out | apply below_alloc | apply pw_below_drewN | apply below_drew1) | exact HB.out)) hb); clear HB; have HB := n0_; clear n0_; (try clear hb); (try clear hb2); (try clear hk); (try clear hi)))
           go_ret
           exact ⟨by first | rfl | (simp [errW_none, errW_some] <;> rfl) | (simp [*, errW_none, errW_some] <;> rfl), by repeat (first | (with_reducible first | exact HB.out | apply below_alloc | apply pw_below_drewN | apply below_drew1) | exact HB.out)⟩
          ·rw [if_neg c22] at H
           exact absurd H (by simp)
         ·rw [if_neg c21] at H
          exact absurd H (by simp)
    ·rw [if_neg c11] at H
     have c11b0 : (t200 == 0) = false := beq_eq_false_iff_ne.mpr c11
     have c11b1 : (t200 != 0) = true := bne_iff_ne.mpr c11
     replace H := Option.bind_eq_some_iff.mp H
     obtain ⟨t203, A260, H⟩ := H
     replace H : (some t203) = some r := H
     have A26 := Aside0.mk A260
     clear A260
     obtain rfl := Option.some.inj H
     go_wp2_with (first | ((with_reducible refine gate_callee (f := 28) rfl ?_); refine goesL_ (some 39) rfl rfl Try.func28 (by kernel_rfl) rfl #[] rfl (by (try simp only [List.map_toArray, List.map_cons, List.map_nil]); first | done | rfl | (simp only [List.length_drop, List.length_take]; rfl)) ?_; (with_reducible refine (bilgelaw40_sure.calls kj5  t203 _ A26.out).mono ?_); rintro e w27 ⟨rfl, hb⟩; refine ⟨_, rfl, ?_⟩; have n0_ := Aside0.mk (below_step (by repeat (first | (with_reducible first | exact HB.out | apply below_alloc | apply pw_below_drewN | apply below_drew1) | exact HB.out)) hb); clear HB; have HB := n0_; clear n0_; (try clear hb); (try clear hb2); (try clear hk); (try clear hi)))
     go_ret
     exact ⟨by first | rfl | (simp [errW_none, errW_some] <;> rfl) | (simp [*, errW_none, errW_some] <;> rfl), by repeat (first | (with_reducible first | exact HB.out | apply below_alloc | apply pw_below_drewN | apply below_drew1) | exact HB.out)⟩

/-- THE ONE PURE STATEMENT of bilgelaw40_ValueScales: yours. -/
def bilgelaw40_ValueScales.Pure : Prop := ∀ (a0 : Int) (a1 : Int) (a2 : Int), (Lit.int .i64 a0).wf = true → (Lit.int .i64 a1).wf = true → (Lit.int .i64 a2).wf = true → ∃ k, bilgelaw40_ValueScales.f k a0 a1 a2 = some true
theorem bilgelaw40_ValueScales.walk (P : bilgelaw40_ValueScales.Pure) (a0 : Int) (a1 : Int) (a2 : Int) (w : World) (w0 : (Lit.int .i64 a0).wf = true) (w1 : (Lit.int .i64 a1).wf = true) (w2 : (Lit.int .i64 a2).wf = true) :
  Calls Try.prog 7 #[.int .i64 a0, .int .i64 a1, .int .i64 a2] w fun e w' => e = .returned (.bool true) ∧ Below w.heap.size w w' := by
 obtain ⟨k, h⟩ := P a0 a1 a2 w0 w1 w2
 refine (bilgelaw40_ValueScales.calls k a0 a1 a2 true w h).mono ?_
 rintro e w' ⟨rfl, hd⟩
 exact ⟨rfl, hd⟩

end Go.Proofs.Ytnaedmakkefdfaa.P
