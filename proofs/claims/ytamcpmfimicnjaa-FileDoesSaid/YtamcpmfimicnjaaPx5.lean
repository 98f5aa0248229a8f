-- Written by the session's own turn of the kit's print program (wip/patch_print.py). Not trusted: Lean checks it.
import Derived.Test.YtamcpmfimicnjaaPx0
import Derived.Test.YtamcpmfimicnjaaPx3
namespace Go.Proofs.Ytamcpmfimicnjaa.P
open Go.RowKit Go.Proofs.YtamcpmfimicnjaaW.PrintWords Go.Proofs.YtamcpmfimicnjaaW.PrintLast Go.Proofs.YtamcpmfimicnjaaW.PrintMore
attribute [local go_sem] max2_int min2_int max_two min_two max_three min_three max_four min_four   -- for this text's walks alone
set_option linter.unusedVariables false
set_option linter.unusedSimpArgs false

/-! ### bilgeref12_Meets: function 47 -/
mutual
def bilgeref12_Meets.j0 : Nat → Int → Int → Bool → Int → Int → Option (Bool)
 | 0, _, _, _, _, _ => none
 | k + 1, x1, x2, x18, x188000, x188001 => if x18 = true then (some false) else (bilgeref12_Meets.l0 k x1 x2 x188000 x188000 x188001)
def bilgeref12_Meets.l0 : Nat → Int → Int → Int → Int → Int → Option (Bool)
 | 0, _, _, _, _, _ => none
 | k + 1, x1, x2, x7, x188000, x188001 => if x7 < (wrap64 (x188000 + x188001)) then (if x7 ≥ x1 then (if x1 ≥ 0 then (if (wrap64 (x7 - x1)) < x2 then (some true) else (if x1 < 0 then (if (wrap64 (x1 + x2)) > x7 then (some true) else (bilgeref12_Meets.l0 k x1 x2 (wrap64 (x7 + 1)) x188000 x188001)) else (bilgeref12_Meets.l0 k x1 x2 (wrap64 (x7 + 1)) x188000 x188001))) else (if x1 < 0 then (if (wrap64 (x1 + x2)) > x7 then (some true) else (bilgeref12_Meets.l0 k x1 x2 (wrap64 (x7 + 1)) x188000 x188001)) else (bilgeref12_Meets.l0 k x1 x2 (wrap64 (x7 + 1)) x188000 x188001))) else (bilgeref12_Meets.l0 k x1 x2 (wrap64 (x7 + 1)) x188000 x188001)) else (some false)
end
def bilgeref12_Meets.f (k : Nat) (a0_0 : Int) (a0_1 : Int) (a1 : Int) (a2 : Int) : Option (Bool) := (bilgeref12_Right.f a0_0 a0_1).bind fun t188 => (if t188 = true then (if a2 < 1 then (bilgeref12_Meets.j0 k a1 a2 true a0_0 a0_1) else (bilgeref12_Meets.j0 k a1 a2 (decide (a1 > 65535)) a0_0 a0_1)) else (bilgeref12_Meets.j0 k a1 a2 true a0_0 a0_1))
theorem bilgeref12_Meets.mono_l : ∀ k, (∀ y0 y1 y2 y3 y4, LeO (bilgeref12_Meets.j0 k y0 y1 y2 y3 y4) (bilgeref12_Meets.j0 (k + 1) y0 y1 y2 y3 y4)) ∧ (∀ y0 y1 y2 y3 y4, LeO (bilgeref12_Meets.l0 k y0 y1 y2 y3 y4) (bilgeref12_Meets.l0 (k + 1) y0 y1 y2 y3 y4))
 | 0 => ⟨fun _ _ _ _ _ r h => by simp [bilgeref12_Meets.j0] at h, fun _ _ _ _ _ r h => by simp [bilgeref12_Meets.l0] at h⟩
 | k + 1 => by
  obtain ⟨ih0, ih1⟩ := bilgeref12_Meets.mono_l k
  refine ⟨?_, ?_⟩
  ·intro y0 y1 y2 y3 y4
   unfold bilgeref12_Meets.j0
   repeat' first
   | (with_reducible exact ih0 _ _ _ _ _)
   | (with_reducible exact ih1 _ _ _ _ _)
   | (with_reducible exact LeO.refl _)
   | (with_reducible exact LeO.none _)
   | (with_reducible refine LeO.ite ?_ ?_)
   | (with_reducible refine LeO.bind ?_ (fun _ => ?_))
   | exact ih0 _ _ _ _ _
   | exact ih1 _ _ _ _ _
   | exact LeO.none _
   | refine LeO.ite ?_ ?_
   | refine LeO.bind ?_ (fun _ => ?_)
  ·intro y0 y1 y2 y3 y4
   unfold bilgeref12_Meets.l0
   repeat' first
   | (with_reducible exact ih0 _ _ _ _ _)
   | (with_reducible exact ih1 _ _ _ _ _)
   | (with_reducible exact LeO.refl _)
   | (with_reducible exact LeO.none _)
   | (with_reducible refine LeO.ite ?_ ?_)
   | (with_reducible refine LeO.bind ?_ (fun _ => ?_))
   | exact ih0 _ _ _ _ _
   | exact ih1 _ _ _ _ _
   | exact LeO.none _
   | refine LeO.ite ?_ ?_
   | refine LeO.bind ?_ (fun _ => ?_)
theorem bilgeref12_Meets.mono : ∀ a0 a1 a2 a3 k, LeO (bilgeref12_Meets.f k a0 a1 a2 a3) (bilgeref12_Meets.f (k + 1) a0 a1 a2 a3) := by
 intro a0 a1 a2 a3 k
 obtain ⟨ih0, ih1⟩ := bilgeref12_Meets.mono_l k
 unfold bilgeref12_Meets.f
 repeat' first
   | (with_reducible exact ih0 _ _ _ _ _)
   | (with_reducible exact ih1 _ _ _ _ _)
   | (with_reducible exact LeO.refl _)
   | (with_reducible exact LeO.none _)
   | (with_reducible refine LeO.ite ?_ ?_)
   | (with_reducible refine LeO.bind ?_ (fun _ => ?_))
   | exact ih0 _ _ _ _ _
   | exact ih1 _ _ _ _ _
   | exact LeO.none _
   | refine LeO.ite ?_ ?_
   | refine LeO.bind ?_ (fun _ => ?_)
set_option maxHeartbeats 8000000 in
set_option maxRecDepth 100000 in
theorem bilgeref12_Meets.calls (k : Nat) (a0_0 : Int) (a0_1 : Int) (a1 : Int) (a2 : Int) (r : Bool) (w : World) (h : bilgeref12_Meets.f k a0_0 a0_1 a1 a2 = some r) :
  Calls Try.prog 47 #[.agg #[.int .i64 a0_0, .int .i64 a0_1], .int .i64 a1, .int .i64 a2] w fun e w' => e = .returned (.bool r) ∧ Below w.heap.size w w' := by
 have hu23 := Try.underlying23
 have HB := Aside0.mk (Below.refl w.heap.size w)
 have H : ((bilgeref12_Right.f a0_0 a0_1).bind fun t188 => (if t188 = true then (if a2 < 1 then (bilgeref12_Meets.j0 k a1 a2 true a0_0 a0_1) else (bilgeref12_Meets.j0 k a1 a2 (decide (a1 > 65535)) a0_0 a0_1)) else (bilgeref12_Meets.j0 k a1 a2 true a0_0 a0_1))) = some r := h
 clear h
 have HC4 := Aside0.mk H
 clear H
 go_enter Try.func47, Try.ntmps47
 go_upto_region 1 with (first | ((with_reducible refine gate_dst (N := 3) rfl ?_); refine box_event ?hg (N := 3) ?hd (cs := #[.int .i64 a0_0, .int .i64 a0_1]) (t := 23) ?hr ?_; (case hd => rfl); (case hg => rfl); (case hr => first | (go_simp; done) | (go_simp; rfl)); intro gb187 hg w5 hbox hb; have n0_ := Aside0.mk (below_step (by repeat (first | (with_reducible first | exact HB.out | apply below_alloc | apply pw_below_drewN | apply below_drew1) | exact HB.out)) hb); have n1_ := Aside0.mk (hbox); have n2_ := Aside0.mk ((by rw [hg]; exact (below_size (by repeat (first | (with_reducible first | exact HB.out | apply below_alloc | apply pw_below_drewN | apply below_drew1) | exact HB.out))) : w.heap.size ≤ gb187)); have n3_ := Aside0.mk ((by rw [hg]; exact (below_size (by repeat (first | (with_reducible first | exact HB.out | apply below_alloc | apply pw_below_drewN | apply below_drew1) | exact HB.out))) : w.heap.size ≤ gb187)); clear HB; have HB := n0_; have BK187 := n1_; have GW187 := n2_; have GE187 := n3_; clear n0_ n1_ n2_ n3_; clear hb hbox hg))
 (try simp only [Act.put, List.setIfInBounds_toArray, List.set_cons_zero, List.set_cons_succ])
 go_cut [18] (fun v18 wc => ∃ (kq : Nat) (x18_3 : Bool), v18 = .bool x18_3 ∧ Aside0 (bilgeref12_Meets.j0 kq a1 a2 x18_3 a0_0 a0_1 = some r) ∧ Aside0 (kq ≤ k) ∧ Aside0 (wc.heap[gb187]? = some (.cells #[.int .i64 a0_0, .int .i64 a0_1] 23 (0, 0))) ∧ Aside0 (Below w.heap.size w wc))
 case first =>
  have H := HC4.out
  clear HC4
  replace H := Option.bind_eq_some_iff.mp H
  obtain ⟨t188, A60, H⟩ := H
  replace H : (if t188 = true then (if a2 < 1 then (bilgeref12_Meets.j0 k a1 a2 true a0_0 a0_1) else (bilgeref12_Meets.j0 k a1 a2 (decide (a1 > 65535)) a0_0 a0_1)) else (bilgeref12_Meets.j0 k a1 a2 true a0_0 a0_1)) = some r := H
  have A6 := Aside0.mk A60
  clear A60
  by_cases c7 : t188 = true
  ·subst c7
   have H1 : (if a2 < 1 then (bilgeref12_Meets.j0 k a1 a2 true a0_0 a0_1) else (bilgeref12_Meets.j0 k a1 a2 (decide (a1 > 65535)) a0_0 a0_1)) = some r := by rw [if_pos rfl] at H; exact H
   clear H
   have H := H1
   clear H1
   by_cases c8 : a2 < 1
   ·rw [if_pos c8] at H
    have c8b0 : decide (a2 < 1) = true := decide_eq_true c8
    clear c8
    (first | rw [c8b0] | (simp only [i64_w, i32_w]; rw [c8b0]) | skip)
    have H' := Aside0.mk H
    clear H
    have hcz9_0 : w5.cell? ⟨gb187, 0, none⟩ = some (.int .i64 a0_0) := (blk_cell BK187.out 0).trans rfl
    have hcz9_1 : w5.cell? ⟨gb187, 1, none⟩ = some (.int .i64 a0_1) := (blk_cell BK187.out 1).trans rfl
    have hfz9_0 := blk_frozen BK187.out 0
    have hfz9_1 := blk_frozen BK187.out 1
    go_wp2_with (first | ((with_reducible refine gate_callee (f := 41) rfl ?_); refine goesL_ (some 9) rfl rfl Try.func41 (by kernel_rfl) rfl #[.agg #[.int .i64 a0_0, .int .i64 a0_1]] rfl (by (try simp only [List.map_toArray, List.map_cons, List.map_nil]); first | done | rfl | (simp only [List.length_drop, List.length_take]; rfl)) ?_; (with_reducible refine (bilgeref12_Right.calls a0_0 a0_1 true _ A6.out).mono ?_); rintro e w10 ⟨rfl, hb⟩; refine ⟨_, rfl, ?_⟩; have n0_ := Aside0.mk (blk_below (g := gb187) (o := .cells #[.int .i64 a0_0, .int .i64 a0_1] 23 (0, 0)) (by (with_reducible repeat (first | refine blk_drewN ?_ _ | refine blk_drew ?_ | refine blk_alloc ?_ _)); exact BK187.out) hb); have n1_ := Aside0.mk (below_step (by repeat (first | (with_reducible first | exact HB.out | apply below_alloc | apply pw_below_drewN | apply below_drew1 | refine below_set ?_ GE187.out) | exact HB.out)) hb); clear BK187; clear HB; have BK187 := n0_; have HB := n1_; clear n0_ n1_; (try clear hb); (try clear hb2); (try clear hk); (try clear hi)))
    all_goals try (first | exact absurd (of_decide_eq_true c8b0) (by assumption))
    go_meet
    case rel => exact ⟨_, (true), (by first | rfl | (simp; done) | (simp [*]; done)), H', ⟨by first | omega | exact Nat.le_refl _⟩, ⟨by (with_reducible repeat (first | refine blk_drewN ?_ _ | refine blk_drew ?_ | refine blk_alloc ?_ _)); exact BK187.out⟩, ⟨by repeat (first | (with_reducible first | exact HB.out | apply below_alloc | apply pw_below_drewN | apply below_drew1 | refine below_set ?_ GE187.out) | exact HB.out)⟩⟩
   ·rw [if_neg c8] at H
    have c8b0 : decide (a2 < 1) = false := decide_eq_false c8
    clear c8
    (first | rw [c8b0] | (simp only [i64_w, i32_w]; rw [c8b0]) | skip)
    have H' := Aside0.mk H
    clear H
    have hcz11_0 : w5.cell? ⟨gb187, 0, none⟩ = some (.int .i64 a0_0) := (blk_cell BK187.out 0).trans rfl
    have hcz11_1 : w5.cell? ⟨gb187, 1, none⟩ = some (.int .i64 a0_1) := (blk_cell BK187.out 1).trans rfl
    have hfz11_0 := blk_frozen BK187.out 0
    have hfz11_1 := blk_frozen BK187.out 1
    go_wp2_with (first | ((with_reducible refine gate_callee (f := 41) rfl ?_); refine goesL_ (some 9) rfl rfl Try.func41 (by kernel_rfl) rfl #[.agg #[.int .i64 a0_0, .int .i64 a0_1]] rfl (by (try simp only [List.map_toArray, List.map_cons, List.map_nil]); first | done | rfl | (simp only [List.length_drop, List.length_take]; rfl)) ?_; (with_reducible refine (bilgeref12_Right.calls a0_0 a0_1 true _ A6.out).mono ?_); rintro e w12 ⟨rfl, hb⟩; refine ⟨_, rfl, ?_⟩; have n0_ := Aside0.mk (blk_below (g := gb187) (o := .cells #[.int .i64 a0_0, .int .i64 a0_1] 23 (0, 0)) (by (with_reducible repeat (first | refine blk_drewN ?_ _ | refine blk_drew ?_ | refine blk_alloc ?_ _)); exact BK187.out) hb); have n1_ := Aside0.mk (below_step (by repeat (first | (with_reducible first | exact HB.out | apply below_alloc | apply pw_below_drewN | apply below_drew1 | refine below_set ?_ GE187.out) | exact HB.out)) hb); clear BK187; clear HB; have BK187 := n0_; have HB := n1_; clear n0_ n1_; (try clear hb); (try clear hb2); (try clear hk); (try clear hi)))
    all_goals try (first | exact absurd (by assumption) (of_decide_eq_false c8b0))
    go_meet
    case rel => exact ⟨_, (decide (a1 > 65535)), (by first | rfl | (simp; done) | (simp [*]; done)), H', ⟨by first | omega | exact Nat.le_refl _⟩, ⟨by (with_reducible repeat (first | refine blk_drewN ?_ _ | refine blk_drew ?_ | refine blk_alloc ?_ _)); exact BK187.out⟩, ⟨by repeat (first | (with_reducible first | exact HB.out | apply below_alloc | apply pw_below_drewN | apply below_drew1 | refine below_set ?_ GE187.out) | exact HB.out)⟩⟩
  ·replace c7 := Bool.eq_false_iff.mpr c7
   subst c7
   have H1 : (bilgeref12_Meets.j0 k a1 a2 true a0_0 a0_1) = some r := by rw [if_neg (show ¬ (false = true) by decide)] at H; exact H
   clear H
   have H := H1
   clear H1
   have H' := Aside0.mk H
   clear H
   have hcz13_0 : w5.cell? ⟨gb187, 0, none⟩ = some (.int .i64 a0_0) := (blk_cell BK187.out 0).trans rfl
   have hcz13_1 : w5.cell? ⟨gb187, 1, none⟩ = some (.int .i64 a0_1) := (blk_cell BK187.out 1).trans rfl
   have hfz13_0 := blk_frozen BK187.out 0
   have hfz13_1 := blk_frozen BK187.out 1
   go_wp2_with (first | ((with_reducible refine gate_callee (f := 41) rfl ?_); refine goesL_ (some 9) rfl rfl Try.func41 (by kernel_rfl) rfl #[.agg #[.int .i64 a0_0, .int .i64 a0_1]] rfl (by (try simp only [List.map_toArray, List.map_cons, List.map_nil]); first | done | rfl | (simp only [List.length_drop, List.length_take]; rfl)) ?_; (with_reducible refine (bilgeref12_Right.calls a0_0 a0_1 false _ A6.out).mono ?_); rintro e w14 ⟨rfl, hb⟩; refine ⟨_, rfl, ?_⟩; have n0_ := Aside0.mk (blk_below (g := gb187) (o := .cells #[.int .i64 a0_0, .int .i64 a0_1] 23 (0, 0)) (by (with_reducible repeat (first | refine blk_drewN ?_ _ | refine blk_drew ?_ | refine blk_alloc ?_ _)); exact BK187.out) hb); have n1_ := Aside0.mk (below_step (by repeat (first | (with_reducible first | exact HB.out | apply below_alloc | apply pw_below_drewN | apply below_drew1 | refine below_set ?_ GE187.out) | exact HB.out)) hb); clear BK187; clear HB; have BK187 := n0_; have HB := n1_; clear n0_ n1_; (try clear hb); (try clear hb2); (try clear hk); (try clear hi)))
   go_meet
   case rel => exact ⟨_, (true), (by first | rfl | (simp; done) | (simp [*]; done)), H', ⟨by first | omega | exact Nat.le_refl _⟩, ⟨by (with_reducible repeat (first | refine blk_drewN ?_ _ | refine blk_drew ?_ | refine blk_alloc ?_ _)); exact BK187.out⟩, ⟨by repeat (first | (with_reducible first | exact HB.out | apply below_alloc | apply pw_below_drewN | apply below_drew1 | refine below_set ?_ GE187.out) | exact HB.out)⟩⟩
 case rest =>
  clear HC4
  try clear p2
  try clear c4
  try clear c7
  try clear c8
  try clear c8b0
  try clear hcz11_0
  try clear hcz11_1
  try clear hcz13_0
  try clear hcz13_1
  try clear hcz9_0
  try clear hcz9_1
  try clear hfz11_0
  try clear hfz11_1
  try clear hfz13_0
  try clear hfz13_1
  try clear hfz9_0
  try clear hfz9_1
  obtain ⟨kq, x18_3, rfl, HA, HJ3, BK187, HB⟩ := hcut
  cases kq with
  | zero => exact absurd HA.out (by simp [bilgeref12_Meets.j0])
  | succ kj3 =>
   have H := HA.out
   clear HA
   simp only [bilgeref12_Meets.j0] at H
   by_cases c15 : x18_3 = true
   ·subst c15
    have H1 : (some false) = some r := by rw [if_pos rfl] at H; exact H
    clear H
    have H := H1
    clear H1
    obtain rfl := Option.some.inj H
    go_wp2
    go_ret
    exact ⟨by first | rfl | (simp [errW_none, errW_some] <;> rfl) | (simp [*, errW_none, errW_some] <;> rfl), by repeat (first | (with_reducible first | exact HB.out | apply below_alloc | apply pw_below_drewN | apply below_drew1 | refine below_set ?_ GE187.out) | exact HB.out)⟩
   ·replace c15 := Bool.eq_false_iff.mpr c15
    subst c15
    have H1 : (bilgeref12_Meets.l0 kj3 a1 a2 a0_0 a0_0 a0_1) = some r := by rw [if_neg (show ¬ (false = true) by decide)] at H; exact H
    clear H
    have H := H1
    clear H1
    have H' := Aside0.mk H
    clear H
    have hcz16_0 : wc.cell? ⟨gb187, 0, none⟩ = some (.int .i64 a0_0) := (blk_cell BK187.out 0).trans rfl
    have hcz16_1 : wc.cell? ⟨gb187, 1, none⟩ = some (.int .i64 a0_1) := (blk_cell BK187.out 1).trans rfl
    have hfz16_0 := blk_frozen BK187.out 0
    have hfz16_1 := blk_frozen BK187.out 1
    go_wp2
    go_loopg [7] kj3 (fun kq v7 w' => ∃ (x7_2 : Int), v7 = .int .i64 x7_2 ∧ Aside0 (bilgeref12_Meets.l0 kq a1 a2 x7_2 a0_0 a0_1 = some r) ∧ Aside0 (kq ≤ kj3) ∧ Aside0 (w'.heap[gb187]? = some (.cells #[.int .i64 a0_0, .int .i64 a0_1] 23 (0, 0))) ∧ Aside0 (Below w.heap.size w w'))
    case atStart => exact ⟨(a0_0), (by first | rfl | (simp; done) | (simp [*]; done)), H', ⟨Nat.le_refl _⟩, ⟨by (with_reducible repeat (first | refine blk_drewN ?_ _ | refine blk_drew ?_ | refine blk_alloc ?_ _)); exact BK187.out⟩, ⟨by repeat (first | (with_reducible first | exact HB.out | apply below_alloc | apply pw_below_drewN | apply below_drew1 | refine below_set ?_ GE187.out) | exact HB.out)⟩⟩
    case round =>
     clear H'
     try clear c1
     try clear p2
     try clear c4
     try clear c7
     try clear c8
     try clear c8b0
     try clear c15
     try clear hcz11_0
     try clear hcz11_1
     try clear hcz13_0
     try clear hcz13_1
     try clear hcz16_0
     try clear hcz16_1
     try clear hcz9_0
     try clear hcz9_1
     try clear hfz11_0
     try clear hfz11_1
     try clear hfz13_0
     try clear hfz13_1
     try clear hfz16_0
     try clear hfz16_1
     try clear hfz9_0
     try clear hfz9_1
     try clear p2
     obtain ⟨x7_2, rfl, HA, HK2, BK187, HB⟩ := hrel
     cases gk with
     | zero => exact absurd HA.out (by simp [bilgeref12_Meets.l0])
     | succ k2 =>
      have H := HA.out
      clear HA
      simp only [bilgeref12_Meets.l0] at H
      by_cases c17 : x7_2 < (wrap64 (a0_0 + a0_1))
      ·rw [if_pos c17] at H
       have c17b0 : decide (x7_2 < (wrap64 (a0_0 + a0_1))) = true := decide_eq_true c17
       clear c17
       by_cases c18 : x7_2 ≥ a1
       ·rw [if_pos c18] at H
        have c18b0 : decide (a1 ≤ x7_2) = true := decide_eq_true c18
        clear c18
        by_cases c19 : a1 ≥ 0
        ·rw [if_pos c19] at H
         have c19b0 : decide (0 ≤ a1) = true := decide_eq_true c19
         clear c19
         by_cases c20 : (wrap64 (x7_2 - a1)) < a2
         ·rw [if_pos c20] at H
          have c20b0 : decide ((wrap64 (x7_2 - a1)) < a2) = true := decide_eq_true c20
          clear c20
          obtain rfl := Option.some.inj H
          have hcz21_0 : wr.cell? ⟨gb187, 0, none⟩ = some (.int .i64 a0_0) := (blk_cell BK187.out 0).trans rfl
          have hcz21_1 : wr.cell? ⟨gb187, 1, none⟩ = some (.int .i64 a0_1) := (blk_cell BK187.out 1).trans rfl
          have hfz21_0 := blk_frozen BK187.out 0
          have hfz21_1 := blk_frozen BK187.out 1
          go_wp2
          all_goals try (first | exact absurd (of_decide_eq_true c17b0) (by assumption) | exact absurd (of_decide_eq_true c18b0) (by assumption) | exact absurd (of_decide_eq_true c19b0) (by assumption) | exact absurd (of_decide_eq_true c20b0) (by assumption))
          go_ret
          exact ⟨by first | rfl | (simp [errW_none, errW_some] <;> rfl) | (simp [*, errW_none, errW_some] <;> rfl), by repeat (first | (with_reducible first | exact HB.out | apply below_alloc | apply pw_below_drewN | apply below_drew1 | refine below_set ?_ GE187.out) | exact HB.out)⟩
         ·rw [if_neg c20] at H
          have c20b0 : decide ((wrap64 (x7_2 - a1)) < a2) = false := decide_eq_false c20
          clear c20
          by_cases c22 : a1 < 0
          ·rw [if_pos c22] at H
           have c22b0 : decide (a1 < 0) = true := decide_eq_true c22
           clear c22
           by_cases c23 : (wrap64 (a1 + a2)) > x7_2
           ·rw [if_pos c23] at H
            have c23b0 : decide (x7_2 < (wrap64 (a1 + a2))) = true := decide_eq_true c23
            clear c23
            obtain rfl := Option.some.inj H
            have hcz24_0 : wr.cell? ⟨gb187, 0, none⟩ = some (.int .i64 a0_0) := (blk_cell BK187.out 0).trans rfl
            have hcz24_1 : wr.cell? ⟨gb187, 1, none⟩ = some (.int .i64 a0_1) := (blk_cell BK187.out 1).trans rfl
            have hfz24_0 := blk_frozen BK187.out 0
            have hfz24_1 := blk_frozen BK187.out 1
            go_wp2
            all_goals try (first | exact absurd (of_decide_eq_true c17b0) (by assumption) | exact absurd (of_decide_eq_true c18b0) (by assumption) | exact absurd (of_decide_eq_true c19b0) (by assumption) | exact absurd (by assumption) (of_decide_eq_false c20b0) | exact absurd (of_decide_eq_true c22b0) (by assumption) | exact absurd (of_decide_eq_true c23b0) (by assumption))
            go_ret
            exact ⟨by first | rfl | (simp [errW_none, errW_some] <;> rfl) | (simp [*, errW_none, errW_some] <;> rfl), by repeat (first | (with_reducible first | exact HB.out | apply below_alloc | apply pw_below_drewN | apply below_drew1 | refine below_set ?_ GE187.out) | exact HB.out)⟩
           ·rw [if_neg c23] at H
            have c23b0 : decide (x7_2 < (wrap64 (a1 + a2))) = false := decide_eq_false c23
            clear c23
            have H' := Aside0.mk H
            clear H
            have hcz25_0 : wr.cell? ⟨gb187, 0, none⟩ = some (.int .i64 a0_0) := (blk_cell BK187.out 0).trans rfl
            have hcz25_1 : wr.cell? ⟨gb187, 1, none⟩ = some (.int .i64 a0_1) := (blk_cell BK187.out 1).trans rfl
            have hfz25_0 := blk_frozen BK187.out 0
            have hfz25_1 := blk_frozen BK187.out 1
            go_wp2
            all_goals try (first | exact absurd (of_decide_eq_true c17b0) (by assumption) | exact absurd (of_decide_eq_true c18b0) (by assumption) | exact absurd (of_decide_eq_true c19b0) (by assumption) | exact absurd (by assumption) (of_decide_eq_false c20b0) | exact absurd (of_decide_eq_true c22b0) (by assumption) | exact absurd (by assumption) (of_decide_eq_false c23b0))
            go_roundg k2
            case measure => have := HJ3.out; have := HK2.out; omega
            case rel => exact ⟨(wrap64 (x7_2 + 1)), (by first | rfl | (simp; done) | (simp [*]; done)), H', ⟨by have := HJ3.out; have := HK2.out; omega⟩, ⟨by (with_reducible repeat (first | refine blk_drewN ?_ _ | refine blk_drew ?_ | refine blk_alloc ?_ _)); exact BK187.out⟩, ⟨by repeat (first | (with_reducible first | exact HB.out | apply below_alloc | apply pw_below_drewN | apply below_drew1 | refine below_set ?_ GE187.out) | exact HB.out)⟩⟩
          ·rw [if_neg c22] at H
           have c22b0 : decide (a1 < 0) = false := decide_eq_false c22
           clear c22
           have H' := Aside0.mk H
           clear H
           have hcz26_0 : wr.cell? ⟨gb187, 0, none⟩ = some (.int .i64 a0_0) := (blk_cell BK187.out 0).trans rfl
           have hcz26_1 : wr.cell? ⟨gb187, 1, none⟩ = some (.int .i64 a0_1) := (blk_cell BK187.out 1).trans rfl
           have hfz26_0 := blk_frozen BK187.out 0
           have hfz26_1 := blk_frozen BK187.out 1
           go_wp2
           all_goals try (first | exact absurd (of_decide_eq_true c17b0) (by assumption) | exact absurd (of_decide_eq_true c18b0) (by assumption) | exact absurd (of_decide_eq_true c19b0) (by assumption) | exact absurd (by assumption) (of_decide_eq_false c20b0) | exact absurd (by assumption) (of_decide_eq_false c22b0))
           go_roundg k2
           case measure => have := HJ3.out; have := HK2.out; omega
           case rel => exact ⟨(wrap64 (x7_2 + 1)), (by first | rfl | (simp; done) | (simp [*]; done)), H', ⟨by have := HJ3.out; have := HK2.out; omega⟩, ⟨by (with_reducible repeat (first | refine blk_drewN ?_ _ | refine blk_drew ?_ | refine blk_alloc ?_ _)); exact BK187.out⟩, ⟨by repeat (first | (with_reducible first | exact HB.out | apply below_alloc | apply pw_below_drewN | apply below_drew1 | refine below_set ?_ GE187.out) | exact HB.out)⟩⟩
        ·rw [if_neg c19] at H
         have c19b0 : decide (0 ≤ a1) = false := decide_eq_false c19
         clear c19
         by_cases c27 : a1 < 0
         ·rw [if_pos c27] at H
          have c27b0 : decide (a1 < 0) = true := decide_eq_true c27
          clear c27
          by_cases c28 : (wrap64 (a1 + a2)) > x7_2
          ·rw [if_pos c28] at H
           have c28b0 : decide (x7_2 < (wrap64 (a1 + a2))) = true := decide_eq_true c28
           clear c28
           obtain rfl := Option.some.inj H
           have hcz29_0 : wr.cell? ⟨gb187, 0, none⟩ = some (.int .i64 a0_0) := (blk_cell BK187.out 0).trans rfl
           have hcz29_1 : wr.cell? ⟨gb187, 1, none⟩ = some (.int .i64 a0_1) := (blk_cell BK187.out 1).trans rfl
           have hfz29_0 := blk_frozen BK187.out 0
           have hfz29_1 := blk_frozen BK187.out 1
           go_wp2
           all_goals try (first | exact absurd (of_decide_eq_true c17b0) (by assumption) | exact absurd (of_decide_eq_true c18b0) (by assumption) | exact absurd (by assumption) (of_decide_eq_false c19b0) | exact absurd (of_decide_eq_true c27b0) (by assumption) | exact absurd (of_decide_eq_true c28b0) (by assumption))
           go_ret
           exact ⟨by first | rfl | (simp [errW_none, errW_some] <;> rfl) | (simp [*, errW_none, errW_some] <;> rfl), by repeat (first | (with_reducible first | exact HB.out | apply below_alloc | apply pw_below_drewN | apply below_drew1 | refine below_set ?_ GE187.out) | exact HB.out)⟩
          ·rw [if_neg c28] at H
           have c28b0 : decide (x7_2 < (wrap64 (a1 + a2))) = false := decide_eq_false c28
           clear c28
           have H' := Aside0.mk H
           clear H
           have hcz30_0 : wr.cell? ⟨gb187, 0, none⟩ = some (.int .i64 a0_0) := (blk_cell BK187.out 0).trans rfl
           have hcz30_1 : wr.cell? ⟨gb187, 1, none⟩ = some (.int .i64 a0_1) := (blk_cell BK187.out 1).trans rfl
           have hfz30_0 := blk_frozen BK187.out 0
           have hfz30_1 := blk_frozen BK187.out 1
           go_wp2
           all_goals try (first | exact absurd (of_decide_eq_true c17b0) (by assumption) | exact absurd (of_decide_eq_true c18b0) (by assumption) | exact absurd (by assumption) (of_decide_eq_false c19b0) | exact absurd (of_decide_eq_true c27b0) (by assumption) | exact absurd (by assumption) (of_decide_eq_false c28b0))
           go_roundg k2
           case measure => have := HJ3.out; have := HK2.out; omega
           case rel => exact ⟨(wrap64 (x7_2 + 1)), (by first | rfl | (simp; done) | (simp [*]; done)), H', ⟨by have := HJ3.out; have := HK2.out; omega⟩, ⟨by (with_reducible repeat (first | refine blk_drewN ?_ _ | refine blk_drew ?_ | refine blk_alloc ?_ _)); exact BK187.out⟩, ⟨by repeat (first | (with_reducible first | exact HB.out | apply below_alloc | apply pw_below_drewN | apply below_drew1 | refine below_set ?_ GE187.out) | exact HB.out)⟩⟩
         ·rw [if_neg c27] at H
          have c27b0 : decide (a1 < 0) = false := decide_eq_false c27
          clear c27
          have H' := Aside0.mk H
          clear H
          have hcz31_0 : wr.cell? ⟨gb187, 0, none⟩ = some (.int .i64 a0_0) := (blk_cell BK187.out 0).trans rfl
          have hcz31_1 : wr.cell? ⟨gb187, 1, none⟩ = some (.int .i64 a0_1) := (blk_cell BK187.out 1).trans rfl
          have hfz31_0 := blk_frozen BK187.out 0
          have hfz31_1 := blk_frozen BK187.out 1
          go_wp2
          all_goals try (first | exact absurd (of_decide_eq_true c17b0) (by assumption) | exact absurd (of_decide_eq_true c18b0) (by assumption) | exact absurd (by assumption) (of_decide_eq_false c19b0) | exact absurd (by assumption) (of_decide_eq_false c27b0))
          go_roundg k2
          case measure => have := HJ3.out; have := HK2.out; omega
          case rel => exact ⟨(wrap64 (x7_2 + 1)), (by first | rfl | (simp; done) | (simp [*]; done)), H', ⟨by have := HJ3.out; have := HK2.out; omega⟩, ⟨by (with_reducible repeat (first | refine blk_drewN ?_ _ | refine blk_drew ?_ | refine blk_alloc ?_ _)); exact BK187.out⟩, ⟨by repeat (first | (with_reducible first | exact HB.out | apply below_alloc | apply pw_below_drewN | apply below_drew1 | refine below_set ?_ GE187.out) | exact HB.out)⟩⟩
       ·rw [if_neg c18] at H
        have c18b0 : decide (a1 ≤ x7_2) = false := decide_eq_false c18
        clear c18
        have H' := Aside0.mk H
        clear H
        have hcz32_0 : wr.cell? ⟨gb187, 0, none⟩ = some (.int .i64 a0_0) := (blk_cell BK187.out 0).trans rfl
        have hcz32_1 : wr.cell? ⟨gb187, 1, none⟩ = some (.int .i64 a0_1) := (blk_cell BK187.out 1).trans rfl
        have hfz32_0 := blk_frozen BK187.out 0
        have hfz32_1 := blk_frozen BK187.out 1
        go_wp2
        all_goals try (first | exact absurd (of_decide_eq_true c17b0) (by assumption) | exact absurd (by assumption) (of_decide_eq_false c18b0))
        go_roundg k2
        case measure => have := HJ3.out; have := HK2.out; omega
        case rel => exact ⟨(wrap64 (x7_2 + 1)), (by first | rfl | (simp; done) | (simp [*]; done)), H', ⟨by have := HJ3.out; have := HK2.out; omega⟩, ⟨by (with_reducible repeat (first | refine blk_drewN ?_ _ | refine blk_drew ?_ | refine blk_alloc ?_ _)); exact BK187.out⟩, ⟨by repeat (first | (with_reducible first | exact HB.out | apply below_alloc | apply pw_below_drewN | apply below_drew1 | refine below_set ?_ GE187.out) | exact HB.out)⟩⟩
      ·rw [if_neg c17] at H
       have c17b0 : decide (x7_2 < (wrap64 (a0_0 + a0_1))) = false := decide_eq_false c17
       clear c17
       obtain rfl := Option.some.inj H
       have hcz33_0 : wr.cell? ⟨gb187, 0, none⟩ = some (.int .i64 a0_0) := (blk_cell BK187.out 0).trans rfl
       have hcz33_1 : wr.cell? ⟨gb187, 1, none⟩ = some (.int .i64 a0_1) := (blk_cell BK187.out 1).trans rfl
       have hfz33_0 := blk_frozen BK187.out 0
       have hfz33_1 := blk_frozen BK187.out 1
       go_wp2
       all_goals try (first | exact absurd (by assumption) (of_decide_eq_false c17b0))
       go_ret
       exact ⟨by first | rfl | (simp [errW_none, errW_some] <;> rfl) | (simp [*, errW_none, errW_some] <;> rfl), by repeat (first | (with_reducible first | exact HB.out | apply below_alloc | apply pw_below_drewN | apply below_drew1 | refine below_set ?_ GE187.out) | exact HB.out)⟩

end Go.Proofs.Ytamcpmfimicnjaa.P
