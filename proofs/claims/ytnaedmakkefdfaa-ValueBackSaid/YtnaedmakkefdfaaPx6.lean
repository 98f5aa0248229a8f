-- Written by the session's own turn of the kit's print program (wip/patch_print.py). Not trusted: Lean checks it.
import Derived.Test.YtnaedmakkefdfaaPx0
import Derived.Test.YtnaedmakkefdfaaPx2
import Derived.Test.YtnaedmakkefdfaaPx3
namespace Go.Proofs.Ytnaedmakkefdfaa.P
open Go.RowKit Go.Proofs.YtnaedmakkefdfaaW.PrintWords Go.Proofs.YtnaedmakkefdfaaW.PrintLast Go.Proofs.YtnaedmakkefdfaaW.PrintMore
attribute [local go_sem] max2_int min2_int max_two min_two max_three min_three max_four min_four   -- for this text's walks alone
set_option linter.unusedVariables false
set_option linter.unusedSimpArgs false

/-! ### bilgelaw40_ValueBack: function 8 -/
mutual
def bilgelaw40_ValueBack.j2 : Nat → List Int → Int → Int → Int → Option (Bool)
 | 0, _, _, _, _ => none
 | k + 1, x1, x8, x211000, x211001 => (value_Get.f k x1 x8 (decide (x211000 ≥ 128))).bind fun bt223 => (if bt223.2 = 0 then ((value_Put.f k bt223.1 (x1.length : Int) x8).bind fun bt225 => (if bt225.2 = 0 then ((bilgeref01_Words.f k bt225.1 x1).bind fun t229 => (if t229 = true then ((bilgelaw40_sure.f k).bind fun t230 => (some t230)) else (none))) else (none))) else (if (x1.length : Int) < 1 then ((bilgelaw40_sure.f k).bind fun t231 => (some t231)) else (if (x1.length : Int) > 4 then ((bilgelaw40_sure.f k).bind fun t232 => (some t232)) else (none))))
def bilgelaw40_ValueBack.j0 : Nat → List Int → Int → Int → List Int → List Int → Bool → Int → Int → Option (Bool)
 | 0, _, _, _, _, _, _, _, _ => none
 | k + 1, x1, x7, x8, x9, x13, x76, x211000, x211001 => if x76 = true then (none) else (bilgelaw40_ValueBack.l0 k x1 x7 x8 x9 x13 0 x211000 x211001)
def bilgelaw40_ValueBack.l0 : Nat → List Int → Int → Int → List Int → List Int → Int → Int → Int → Option (Bool)
 | 0, _, _, _, _, _, _, _, _ => none
 | k + 1, x1, x7, x8, x9, x13, x15, x211000, x211001 => if x15 < x7 then (if 0 ≤ x15 then (if x15 < (x9.length : Int) then (if 0 ≤ (wrap64 ((wrap64 (x7 - 1)) - x15)) then (if (wrap64 ((wrap64 (x7 - 1)) - x15)) < (x13.length : Int) then (if (rd x9 x15) = (rd x13 (wrap64 ((wrap64 (x7 - 1)) - x15))) then (bilgelaw40_ValueBack.l0 k x1 x7 x8 x9 x13 (wrap64 (x15 + 1)) x211000 x211001) else (none)) else (none)) else (none)) else (none)) else (none)) else (bilgelaw40_ValueBack.j2 k x1 x8 x211000 x211001)
end
def bilgelaw40_ValueBack.f (k : Nat) (a0 : Int) (l1 : List Int) (a2_0 : Int) (a2_1 : Int) : Option (Bool) := (value_Put.f k a0 (wrap64 (1 + (Int.tmod (wrap64 (a2_0)) 4))) (Int.tmod (wrap64 (a2_1)) 4)).bind fun bt211 => (if bt211.2 = 0 then ((value_Get.f k bt211.1 (Int.tmod (wrap64 (a2_1)) 4) (decide (a0 < 0))).bind fun bt215 => ((value_Put.f k a0 (wrap64 (1 + (Int.tmod (wrap64 (a2_0)) 4))) (Go.bits .xor .i64 (Int.tmod (wrap64 (a2_1)) 4) 1)).bind fun bt217 => (if bt215.2 = 0 then (if bt215.1 = a0 then (if (bt211.1.length : Int) = (wrap64 (1 + (Int.tmod (wrap64 (a2_0)) 4))) then (if bt217.2 = 0 then (bilgelaw40_ValueBack.j0 k l1 (wrap64 (1 + (Int.tmod (wrap64 (a2_0)) 4))) (Int.tmod (wrap64 (a2_1)) 4) bt211.1 bt217.1 ((bt217.1.length : Int) != (wrap64 (1 + (Int.tmod (wrap64 (a2_0)) 4)))) a2_0 a2_1) else (bilgelaw40_ValueBack.j0 k l1 (wrap64 (1 + (Int.tmod (wrap64 (a2_0)) 4))) (Int.tmod (wrap64 (a2_1)) 4) bt211.1 bt217.1 true a2_0 a2_1)) else (bilgelaw40_ValueBack.j0 k l1 (wrap64 (1 + (Int.tmod (wrap64 (a2_0)) 4))) (Int.tmod (wrap64 (a2_1)) 4) bt211.1 bt217.1 true a2_0 a2_1)) else (bilgelaw40_ValueBack.j0 k l1 (wrap64 (1 + (Int.tmod (wrap64 (a2_0)) 4))) (Int.tmod (wrap64 (a2_1)) 4) bt211.1 bt217.1 true a2_0 a2_1)) else (bilgelaw40_ValueBack.j0 k l1 (wrap64 (1 + (Int.tmod (wrap64 (a2_0)) 4))) (Int.tmod (wrap64 (a2_1)) 4) bt211.1 bt217.1 true a2_0 a2_1)))) else (bilgelaw40_ValueBack.j2 k l1 (Int.tmod (wrap64 (a2_1)) 4) a2_0 a2_1))
theorem bilgelaw40_ValueBack.mono_l : ∀ k, (∀ y0 y1 y2 y3, LeO (bilgelaw40_ValueBack.j2 k y0 y1 y2 y3) (bilgelaw40_ValueBack.j2 (k + 1) y0 y1 y2 y3)) ∧ (∀ y0 y1 y2 y3 y4 y5 y6 y7, LeO (bilgelaw40_ValueBack.j0 k y0 y1 y2 y3 y4 y5 y6 y7) (bilgelaw40_ValueBack.j0 (k + 1) y0 y1 y2 y3 y4 y5 y6 y7)) ∧ (∀ y0 y1 y2 y3 y4 y5 y6 y7, LeO (bilgelaw40_ValueBack.l0 k y0 y1 y2 y3 y4 y5 y6 y7) (bilgelaw40_ValueBack.l0 (k + 1) y0 y1 y2 y3 y4 y5 y6 y7))
 | 0 => ⟨fun _ _ _ _ r h => by simp [bilgelaw40_ValueBack.j2] at h, fun _ _ _ _ _ _ _ _ r h => by simp [bilgelaw40_ValueBack.j0] at h, fun _ _ _ _ _ _ _ _ r h => by simp [bilgelaw40_ValueBack.l0] at h⟩
 | k + 1 => by
  obtain ⟨ih0, ih1, ih2⟩ := bilgelaw40_ValueBack.mono_l k
  refine ⟨?_, ?_, ?_⟩
  ·intro y0 y1 y2 y3
   unfold bilgelaw40_ValueBack.j2
   repeat' first
   | (with_reducible exact ih0 _ _ _ _)
   | (with_reducible exact ih1 _ _ _ _ _ _ _ _)
   | (with_reducible exact ih2 _ _ _ _ _ _ _ _)
   | (with_reducible exact bilgelaw40_sure.mono _)
   | (with_reducible exact bilgeref01_Words.mono _ _ _)
   | (with_reducible exact value_Get.mono _ _ _ _)
   | (with_reducible exact value_Put.mono _ _ _ _)
   | (with_reducible exact LeO.refl _)
   | (with_reducible exact LeO.none _)
   | (with_reducible refine LeO.ite ?_ ?_)
   | (with_reducible refine LeO.bind ?_ (fun _ => ?_))
   | exact ih0 _ _ _ _
   | exact ih1 _ _ _ _ _ _ _ _
   | exact ih2 _ _ _ _ _ _ _ _
   | exact bilgelaw40_sure.mono _
   | exact bilgeref01_Words.mono _ _ _
   | exact value_Get.mono _ _ _ _
   | exact value_Put.mono _ _ _ _
   | exact LeO.none _
   | refine LeO.ite ?_ ?_
   | refine LeO.bind ?_ (fun _ => ?_)
  ·intro y0 y1 y2 y3 y4 y5 y6 y7
   unfold bilgelaw40_ValueBack.j0
   repeat' first
   | (with_reducible exact ih0 _ _ _ _)
   | (with_reducible exact ih1 _ _ _ _ _ _ _ _)
   | (with_reducible exact ih2 _ _ _ _ _ _ _ _)
   | (with_reducible exact bilgelaw40_sure.mono _)
   | (with_reducible exact bilgeref01_Words.mono _ _ _)
   | (with_reducible exact value_Get.mono _ _ _ _)
   | (with_reducible exact value_Put.mono _ _ _ _)
   | (with_reducible exact LeO.refl _)
   | (with_reducible exact LeO.none _)
   | (with_reducible refine LeO.ite ?_ ?_)
   | (with_reducible refine LeO.bind ?_ (fun _ => ?_))
   | exact ih0 _ _ _ _
   | exact ih1 _ _ _ _ _ _ _ _
   | exact ih2 _ _ _ _ _ _ _ _
   | exact bilgelaw40_sure.mono _
   | exact bilgeref01_Words.mono _ _ _
   | exact value_Get.mono _ _ _ _
   | exact value_Put.mono _ _ _ _
   | exact LeO.none _
   | refine LeO.ite ?_ ?_
   | refine LeO.bind ?_ (fun _ => ?_)
  ·intro y0 y1 y2 y3 y4 y5 y6 y7
   unfold bilgelaw40_ValueBack.l0
   repeat' first
   | (with_reducible exact ih0 _ _ _ _)
   | (with_reducible exact ih1 _ _ _ _ _ _ _ _)
   | (with_reducible exact ih2 _ _ _ _ _ _ _ _)
   | (with_reducible exact bilgelaw40_sure.mono _)
   | (with_reducible exact bilgeref01_Words.mono _ _ _)
   | (with_reducible exact value_Get.mono _ _ _ _)
   | (with_reducible exact value_Put.mono _ _ _ _)
   | (with_reducible exact LeO.refl _)
   | (with_reducible exact LeO.none _)
   | (with_reducible refine LeO.ite ?_ ?_)
   | (with_reducible refine LeO.bind ?_ (fun _ => ?_))
   | exact ih0 _ _ _ _
   | exact ih1 _ _ _ _ _ _ _ _
   | exact ih2 _ _ _ _ _ _ _ _
   | exact bilgelaw40_sure.mono _
   | exact bilgeref01_Words.mono _ _ _
   | exact value_Get.mono _ _ _ _
   | exact value_Put.mono _ _ _ _
   | exact LeO.none _
   | refine LeO.ite ?_ ?_
   | refine LeO.bind ?_ (fun _ => ?_)
theorem bilgelaw40_ValueBack.mono : ∀ a0 a1 a2 a3 k, LeO (bilgelaw40_ValueBack.f k a0 a1 a2 a3) (bilgelaw40_ValueBack.f (k + 1) a0 a1 a2 a3) := by
 intro a0 a1 a2 a3 k
 obtain ⟨ih0, ih1, ih2⟩ := bilgelaw40_ValueBack.mono_l k
 unfold bilgelaw40_ValueBack.f
 repeat' first
   | (with_reducible exact ih0 _ _ _ _)
   | (with_reducible exact ih1 _ _ _ _ _ _ _ _)
   | (with_reducible exact ih2 _ _ _ _ _ _ _ _)
   | (with_reducible exact bilgelaw40_sure.mono _)
   | (with_reducible exact bilgeref01_Words.mono _ _ _)
   | (with_reducible exact value_Get.mono _ _ _ _)
   | (with_reducible exact value_Put.mono _ _ _ _)
   | (with_reducible exact LeO.refl _)
   | (with_reducible exact LeO.none _)
   | (with_reducible refine LeO.ite ?_ ?_)
   | (with_reducible refine LeO.bind ?_ (fun _ => ?_))
   | exact ih0 _ _ _ _
   | exact ih1 _ _ _ _ _ _ _ _
   | exact ih2 _ _ _ _ _ _ _ _
   | exact bilgelaw40_sure.mono _
   | exact bilgeref01_Words.mono _ _ _
   | exact value_Get.mono _ _ _ _
   | exact value_Put.mono _ _ _ _
   | exact LeO.none _
   | refine LeO.ite ?_ ?_
   | refine LeO.bind ?_ (fun _ => ?_)
set_option maxHeartbeats 8000000 in
set_option maxRecDepth 100000 in
theorem bilgelaw40_ValueBack.calls (k : Nat) (a0 : Int) (A1 : Option Addr) (c1 : Nat) (l1 : List Int) (a2_0 : Int) (a2_1 : Int) (r : Bool) (w : World) (hr1 : Kd.C (Kd.int .u16) w A1 l1.length l1) (hc1 : l1.length ≤ c1) (h : bilgelaw40_ValueBack.f k a0 l1 a2_0 a2_1 = some r) :
  Calls Try.prog 8 #[.int .i64 a0, .slice A1 l1.length c1, .agg #[.int .u8 a2_0, .int .u8 a2_1]] w fun e w' => e = .returned (.bool r) ∧ Below w.heap.size w w' := by
 have hu54 := Try.underlying54
 have HR1 := Aside0.mk hr1
 have HC1 := Aside0.mk hc1
 clear hr1 hc1
 have HB := Aside0.mk (Below.refl w.heap.size w)
 have H : ((value_Put.f k a0 (wrap64 (1 + (Int.tmod (wrap64 (a2_0)) 4))) (Int.tmod (wrap64 (a2_1)) 4)).bind fun bt211 => (if bt211.2 = 0 then ((value_Get.f k bt211.1 (Int.tmod (wrap64 (a2_1)) 4) (decide (a0 < 0))).bind fun bt215 => ((value_Put.f k a0 (wrap64 (1 + (Int.tmod (wrap64 (a2_0)) 4))) (Go.bits .xor .i64 (Int.tmod (wrap64 (a2_1)) 4) 1)).bind fun bt217 => (if bt215.2 = 0 then (if bt215.1 = a0 then (if (bt211.1.length : Int) = (wrap64 (1 + (Int.tmod (wrap64 (a2_0)) 4))) then (if bt217.2 = 0 then (bilgelaw40_ValueBack.j0 k l1 (wrap64 (1 + (Int.tmod (wrap64 (a2_0)) 4))) (Int.tmod (wrap64 (a2_1)) 4) bt211.1 bt217.1 ((bt217.1.length : Int) != (wrap64 (1 + (Int.tmod (wrap64 (a2_0)) 4)))) a2_0 a2_1) else (bilgelaw40_ValueBack.j0 k l1 (wrap64 (1 + (Int.tmod (wrap64 (a2_0)) 4))) (Int.tmod (wrap64 (a2_1)) 4) bt211.1 bt217.1 true a2_0 a2_1)) else (bilgelaw40_ValueBack.j0 k l1 (wrap64 (1 + (Int.tmod (wrap64 (a2_0)) 4))) (Int.tmod (wrap64 (a2_1)) 4) bt211.1 bt217.1 true a2_0 a2_1)) else (bilgelaw40_ValueBack.j0 k l1 (wrap64 (1 + (Int.tmod (wrap64 (a2_0)) 4))) (Int.tmod (wrap64 (a2_1)) 4) bt211.1 bt217.1 true a2_0 a2_1)) else (bilgelaw40_ValueBack.j0 k l1 (wrap64 (1 + (Int.tmod (wrap64 (a2_0)) 4))) (Int.tmod (wrap64 (a2_1)) 4) bt211.1 bt217.1 true a2_0 a2_1)))) else (bilgelaw40_ValueBack.j2 k l1 (Int.tmod (wrap64 (a2_1)) 4) a2_0 a2_1))) = some r := h
 clear h
 replace H := Option.bind_eq_some_iff.mp H
 obtain ⟨⟨t211, t212⟩, A40, H⟩ := H
 replace H : (if t212 = 0 then ((value_Get.f k t211 (Int.tmod (wrap64 (a2_1)) 4) (decide (a0 < 0))).bind fun bt215 => ((value_Put.f k a0 (wrap64 (1 + (Int.tmod (wrap64 (a2_0)) 4))) (Go.bits .xor .i64 (Int.tmod (wrap64 (a2_1)) 4) 1)).bind fun bt217 => (if bt215.2 = 0 then (if bt215.1 = a0 then (if (t211.length : Int) = (wrap64 (1 + (Int.tmod (wrap64 (a2_0)) 4))) then (if bt217.2 = 0 then (bilgelaw40_ValueBack.j0 k l1 (wrap64 (1 + (Int.tmod (wrap64 (a2_0)) 4))) (Int.tmod (wrap64 (a2_1)) 4) t211 bt217.1 ((bt217.1.length : Int) != (wrap64 (1 + (Int.tmod (wrap64 (a2_0)) 4)))) a2_0 a2_1) else (bilgelaw40_ValueBack.j0 k l1 (wrap64 (1 + (Int.tmod (wrap64 (a2_0)) 4))) (Int.tmod (wrap64 (a2_1)) 4) t211 bt217.1 true a2_0 a2_1)) else (bilgelaw40_ValueBack.j0 k l1 (wrap64 (1 + (Int.tmod (wrap64 (a2_0)) 4))) (Int.tmod (wrap64 (a2_1)) 4) t211 bt217.1 true a2_0 a2_1)) else (bilgelaw40_ValueBack.j0 k l1 (wrap64 (1 + (Int.tmod (wrap64 (a2_0)) 4))) (Int.tmod (wrap64 (a2_1)) 4) t211 bt217.1 true a2_0 a2_1)) else (bilgelaw40_ValueBack.j0 k l1 (wrap64 (1 + (Int.tmod (wrap64 (a2_0)) 4))) (Int.tmod (wrap64 (a2_1)) 4) t211 bt217.1 true a2_0 a2_1)))) else (bilgelaw40_ValueBack.j2 k l1 (Int.tmod (wrap64 (a2_1)) 4) a2_0 a2_1)) = some r := H
 have A4 := Aside0.mk A40
 clear A40
 have HC5 := Aside0.mk H
 clear H
 go_enter Try.func8, Try.ntmps8
 go_upto_if 37 with (first | ((with_reducible refine gate_dst (N := 5) rfl ?_); (try (refine gate_guard (by rfl) ?_; dsimp only)); refine box_event ?hg (N := 5) ?hd (cs := #[.int .u8 a2_0, .int .u8 a2_1]) (t := 54) ?hr ?_; (case hd => rfl); (case hg => rfl); (case hr => first | (go_simp; done) | (go_simp; rfl)); intro gb210 hg w6 hbox hb; have n0_ := Aside0.mk (below_step (by repeat (first | (with_reducible first | exact HB.out | apply below_alloc | apply pw_below_drewN | apply below_drew1) | exact HB.out)) hb); have n1_ := Aside0.mk (hbox); have n2_ := Aside0.mk ((by rw [hg]; exact (below_size (by repeat (first | (with_reducible first | exact HB.out | apply below_alloc | apply pw_below_drewN | apply below_drew1) | exact HB.out))) : w.heap.size ≤ gb210)); have n3_ := Aside0.mk ((by rw [hg]; exact (below_size (by repeat (first | (with_reducible first | exact HB.out | apply below_alloc | apply pw_below_drewN | apply below_drew1) | exact HB.out))) : w.heap.size ≤ gb210)); clear HB; have HB := n0_; have BK210 := n1_; have GW210 := n2_; have GE210 := n3_; clear n0_ n1_ n2_ n3_; clear hb hbox hg; have hcz7_0 : w6.cell? ⟨gb210, 0, none⟩ = some (.int .u8 a2_0) := (blk_cell BK210.out 0).trans rfl; have hcz7_1 : w6.cell? ⟨gb210, 1, none⟩ = some (.int .u8 a2_1) := (blk_cell BK210.out 1).trans rfl; have hfz7_0 := blk_frozen BK210.out 0; have hfz7_1 := blk_frozen BK210.out 1) | (go_at_call 29; (with_reducible refine (value_Put.calls k a0 (wrap64 (1 + (Int.tmod (wrap64 (a2_0)) 4))) (Int.tmod (wrap64 (a2_1)) 4) t211 t212 _ A4.out).mono ?_); rintro e w8 ⟨v213, rfl, ho0, hb⟩; have n0_ := Aside0.mk (Kd.R_lower ho0 (below_size (by repeat (first | (with_reducible first | exact HB.out | apply below_alloc | apply pw_below_drewN | apply below_drew1 | refine below_set ?_ GE210.out) | exact HB.out)))); have n1_ := Aside0.mk (blk_below (g := gb210) (o := .cells #[.int .u8 a2_0, .int .u8 a2_1] 54 (0, 0)) (by (with_reducible repeat (first | refine blk_drewN ?_ _ | refine blk_drew ?_ | refine blk_alloc ?_ _)); exact BK210.out) hb); have n2_ := Aside0.mk (below_step (by repeat (first | (with_reducible first | exact HB.out | apply below_alloc | apply pw_below_drewN | apply below_drew1 | refine below_set ?_ GE210.out) | exact HB.out)) hb); clear BK210; clear HB; have HO214 := n0_; have BK210 := n1_; have HB := n2_; clear n0_ n1_ n2_; (try clear hb); (try clear hb2); (try clear hk); (try clear hi); (try clear ho0)))
 repeat (go_quiet (first | ((with_reducible refine gate_dst (N := 5) rfl ?_); (try (refine gate_guard (by rfl) ?_; dsimp only)); refine box_event ?hg (N := 5) ?hd (cs := #[.int .u8 a2_0, .int .u8 a2_1]) (t := 54) ?hr ?_; (case hd => rfl); (case hg => rfl); (case hr => first | (go_simp; done) | (go_simp; rfl)); intro gb210 hg w6 hbox hb; have n0_ := Aside0.mk (below_step (by repeat (first | (with_reducible first | exact HB.out | apply below_alloc | apply pw_below_drewN | apply below_drew1) | exact HB.out)) hb); have n1_ := Aside0.mk (hbox); have n2_ := Aside0.mk ((by rw [hg]; exact (below_size (by repeat (first | (with_reducible first | exact HB.out | apply below_alloc | apply pw_below_drewN | apply below_drew1) | exact HB.out))) : w.heap.size ≤ gb210)); have n3_ := Aside0.mk ((by rw [hg]; exact (below_size (by repeat (first | (with_reducible first | exact HB.out | apply below_alloc | apply pw_below_drewN | apply below_drew1) | exact HB.out))) : w.heap.size ≤ gb210)); clear HB; have HB := n0_; have BK210 := n1_; have GW210 := n2_; have GE210 := n3_; clear n0_ n1_ n2_ n3_; clear hb hbox hg; have hcz7_0 : w6.cell? ⟨gb210, 0, none⟩ = some (.int .u8 a2_0) := (blk_cell BK210.out 0).trans rfl; have hcz7_1 : w6.cell? ⟨gb210, 1, none⟩ = some (.int .u8 a2_1) := (blk_cell BK210.out 1).trans rfl; have hfz7_0 := blk_frozen BK210.out 0; have hfz7_1 := blk_frozen BK210.out 1) | (go_at_call 29; (with_reducible refine (value_Put.calls k a0 (wrap64 (1 + (Int.tmod (wrap64 (a2_0)) 4))) (Int.tmod (wrap64 (a2_1)) 4) t211 t212 _ A4.out).mono ?_); rintro e w8 ⟨v213, rfl, ho0, hb⟩; have n0_ := Aside0.mk (Kd.R_lower ho0 (below_size (by repeat (first | (with_reducible first | exact HB.out | apply below_alloc | apply pw_below_drewN | apply below_drew1 | refine below_set ?_ GE210.out) | exact HB.out)))); have n1_ := Aside0.mk (blk_below (g := gb210) (o := .cells #[.int .u8 a2_0, .int .u8 a2_1] 54 (0, 0)) (by (with_reducible repeat (first | refine blk_drewN ?_ _ | refine blk_drew ?_ | refine blk_alloc ?_ _)); exact BK210.out) hb); have n2_ := Aside0.mk (below_step (by repeat (first | (with_reducible first | exact HB.out | apply below_alloc | apply pw_below_drewN | apply below_drew1 | refine below_set ?_ GE210.out) | exact HB.out)) hb); clear BK210; clear HB; have HO214 := n0_; have BK210 := n1_; have HB := n2_; clear n0_ n1_ n2_; (try clear hb); (try clear hb2); (try clear hk); (try clear hi); (try clear ho0))); go_upto_if 37 with (first | ((with_reducible refine gate_dst (N := 5) rfl ?_); (try (refine gate_guard (by rfl) ?_; dsimp only)); refine box_event ?hg (N := 5) ?hd (cs := #[.int .u8 a2_0, .int .u8 a2_1]) (t := 54) ?hr ?_; (case hd => rfl); (case hg => rfl); (case hr => first | (go_simp; done) | (go_simp; rfl)); intro gb210 hg w6 hbox hb; have n0_ := Aside0.mk (below_step (by repeat (first | (with_reducible first | exact HB.out | apply below_alloc | apply pw_below_drewN | apply below_drew1) | exact HB.out)) hb); have n1_ := Aside0.mk (hbox); have n2_ := Aside0.mk ((by rw [hg]; exact (below_size (by repeat (first | (with_reducible first | exact HB.out | apply below_alloc | apply pw_below_drewN | apply below_drew1) | exact HB.out))) : w.heap.size ≤ gb210)); have n3_ := Aside0.mk ((by rw [hg]; exact (below_size (by repeat (first | (with_reducible first | exact HB.out | apply below_alloc | apply pw_below_drewN | apply below_drew1) | exact HB.out))) : w.heap.size ≤ gb210)); clear HB; have HB := n0_; have BK210 := n1_; have GW210 := n2_; have GE210 := n3_; clear n0_ n1_ n2_ n3_; clear hb hbox hg; have hcz7_0 : w6.cell? ⟨gb210, 0, none⟩ = some (.int .u8 a2_0) := (blk_cell BK210.out 0).trans rfl; have hcz7_1 : w6.cell? ⟨gb210, 1, none⟩ = some (.int .u8 a2_1) := (blk_cell BK210.out 1).trans rfl; have hfz7_0 := blk_frozen BK210.out 0; have hfz7_1 := blk_frozen BK210.out 1) | (go_at_call 29; (with_reducible refine (value_Put.calls k a0 (wrap64 (1 + (Int.tmod (wrap64 (a2_0)) 4))) (Int.tmod (wrap64 (a2_1)) 4) t211 t212 _ A4.out).mono ?_); rintro e w8 ⟨v213, rfl, ho0, hb⟩; have n0_ := Aside0.mk (Kd.R_lower ho0 (below_size (by repeat (first | (with_reducible first | exact HB.out | apply below_alloc | apply pw_below_drewN | apply below_drew1 | refine below_set ?_ GE210.out) | exact HB.out)))); have n1_ := Aside0.mk (blk_below (g := gb210) (o := .cells #[.int .u8 a2_0, .int .u8 a2_1] 54 (0, 0)) (by (with_reducible repeat (first | refine blk_drewN ?_ _ | refine blk_drew ?_ | refine blk_alloc ?_ _)); exact BK210.out) hb); have n2_ := Aside0.mk (below_step (by repeat (first | (with_reducible first | exact HB.out | apply below_alloc | apply pw_below_drewN | apply below_drew1 | refine below_set ?_ GE210.out) | exact HB.out)) hb); clear BK210; clear HB; have HO214 := n0_; have BK210 := n1_; have HB := n2_; clear n0_ n1_ n2_; (try clear hb); (try clear hb2); (try clear hk); (try clear hi); (try clear ho0))))
 (try simp only [Act.put, List.setIfInBounds_toArray, List.set_cons_zero, List.set_cons_succ])
 go_cut [] (fun wc => ∃ (kq : Nat), Aside0 (bilgelaw40_ValueBack.j2 kq l1 (Int.tmod (wrap64 (a2_1)) 4) a2_0 a2_1 = some r) ∧ Aside0 (kq ≤ k) ∧ Aside0 (wc.heap[gb210]? = some (.cells #[.int .u8 a2_0, .int .u8 a2_1] 54 (0, 0))) ∧ Aside0 (Below w.heap.size w wc))
 case first =>
  have H := HC5.out
  clear HC5
  by_cases c9 : t212 = 0
  ·rw [if_pos c9] at H
   have c9b0 : (t212 == 0) = true := beq_iff_eq.mpr c9
   have c9b1 : (t212 != 0) = false := bne_eq_false_iff_eq.mpr c9
   clear c9
   (first | rw [c9b0] | (simp only [i64_w, i32_w]; rw [c9b0]) | skip)
   replace H := Option.bind_eq_some_iff.mp H
   obtain ⟨⟨t215, t216⟩, A100, H⟩ := H
   replace H : ((value_Put.f k a0 (wrap64 (1 + (Int.tmod (wrap64 (a2_0)) 4))) (Go.bits .xor .i64 (Int.tmod (wrap64 (a2_1)) 4) 1)).bind fun bt217 => (if t216 = 0 then (if t215 = a0 then (if (t211.length : Int) = (wrap64 (1 + (Int.tmod (wrap64 (a2_0)) 4))) then (if bt217.2 = 0 then (bilgelaw40_ValueBack.j0 k l1 (wrap64 (1 + (Int.tmod (wrap64 (a2_0)) 4))) (Int.tmod (wrap64 (a2_1)) 4) t211 bt217.1 ((bt217.1.length : Int) != (wrap64 (1 + (Int.tmod (wrap64 (a2_0)) 4)))) a2_0 a2_1) else (bilgelaw40_ValueBack.j0 k l1 (wrap64 (1 + (Int.tmod (wrap64 (a2_0)) 4))) (Int.tmod (wrap64 (a2_1)) 4) t211 bt217.1 true a2_0 a2_1)) else (bilgelaw40_ValueBack.j0 k l1 (wrap64 (1 + (Int.tmod (wrap64 (a2_0)) 4))) (Int.tmod (wrap64 (a2_1)) 4) t211 bt217.1 true a2_0 a2_1)) else (bilgelaw40_ValueBack.j0 k l1 (wrap64 (1 + (Int.tmod (wrap64 (a2_0)) 4))) (Int.tmod (wrap64 (a2_1)) 4) t211 bt217.1 true a2_0 a2_1)) else (bilgelaw40_ValueBack.j0 k l1 (wrap64 (1 + (Int.tmod (wrap64 (a2_0)) 4))) (Int.tmod (wrap64 (a2_1)) 4) t211 bt217.1 true a2_0 a2_1))) = some r := H
   have A10 := Aside0.mk A100
   clear A100
   replace H := Option.bind_eq_some_iff.mp H
   obtain ⟨⟨t217, t218⟩, A110, H⟩ := H
   replace H : (if t216 = 0 then (if t215 = a0 then (if (t211.length : Int) = (wrap64 (1 + (Int.tmod (wrap64 (a2_0)) 4))) then (if t218 = 0 then (bilgelaw40_ValueBack.j0 k l1 (wrap64 (1 + (Int.tmod (wrap64 (a2_0)) 4))) (Int.tmod (wrap64 (a2_1)) 4) t211 t217 ((t217.length : Int) != (wrap64 (1 + (Int.tmod (wrap64 (a2_0)) 4)))) a2_0 a2_1) else (bilgelaw40_ValueBack.j0 k l1 (wrap64 (1 + (Int.tmod (wrap64 (a2_0)) 4))) (Int.tmod (wrap64 (a2_1)) 4) t211 t217 true a2_0 a2_1)) else (bilgelaw40_ValueBack.j0 k l1 (wrap64 (1 + (Int.tmod (wrap64 (a2_0)) 4))) (Int.tmod (wrap64 (a2_1)) 4) t211 t217 true a2_0 a2_1)) else (bilgelaw40_ValueBack.j0 k l1 (wrap64 (1 + (Int.tmod (wrap64 (a2_0)) 4))) (Int.tmod (wrap64 (a2_1)) 4) t211 t217 true a2_0 a2_1)) else (bilgelaw40_ValueBack.j0 k l1 (wrap64 (1 + (Int.tmod (wrap64 (a2_0)) 4))) (Int.tmod (wrap64 (a2_1)) 4) t211 t217 true a2_0 a2_1)) = some r := H
   have A11 := Aside0.mk A110
   clear A110
   have HC12 := Aside0.mk H
   clear H
   obtain ⟨Ao13, co13, eo13⟩ := Kd.R_slice HO214.out
   subst eo13
   go_upto_region 6 with (first | (go_at_call 31; (with_reducible refine (value_Get.calls k _ _ t211 (Int.tmod (wrap64 (a2_1)) 4) (decide (a0 < 0)) t215 t216 _ ?side1 ?side2 A10.out).mono ?_); (case side1 => repeat (first | exact (Kd.R_reads' HO214.out).2.2 | (with_reducible refine Kd.C_alloc ?_ _) | (with_reducible refine Kd.C_drewN ?_ _) | (with_reducible refine Kd.C_drew ?_))); (case side2 => exact (Kd.R_reads' HO214.out).2.1); rintro e w14 ⟨rfl, hb⟩; have n0_ := Aside0.mk (Kd.R_below (by (with_reducible repeat (first | apply Kd.R_alloc | apply Kd.R_drewN | apply Kd.R_drew)); exact HO214.out) hb); have n1_ := Aside0.mk (blk_below (g := gb210) (o := .cells #[.int .u8 a2_0, .int .u8 a2_1] 54 (0, 0)) (by (with_reducible repeat (first | refine blk_drewN ?_ _ | refine blk_drew ?_ | refine blk_alloc ?_ _)); exact BK210.out) hb); have n2_ := Aside0.mk (below_step (by repeat (first | (with_reducible first | exact HB.out | apply below_alloc | apply pw_below_drewN | apply below_drew1 | refine below_set ?_ GE210.out) | exact HB.out)) hb); clear HO214; clear BK210; clear HB; have HO214 := n0_; have BK210 := n1_; have HB := n2_; clear n0_ n1_ n2_; (try clear hb); (try clear hb2); (try clear hk); (try clear hi)) | (go_at_call 29; (with_reducible refine (value_Put.calls k a0 (wrap64 (1 + (Int.tmod (wrap64 (a2_0)) 4))) (Go.bits .xor .i64 (Int.tmod (wrap64 (a2_1)) 4) 1) t217 t218 _ A11.out).mono ?_); rintro e w15 ⟨v219, rfl, ho0, hb⟩; have n0_ := Aside0.mk (Kd.R_elder' (by (with_reducible repeat (first | apply Kd.R_alloc | apply Kd.R_drewN | apply Kd.R_drew)); exact HO214.out) (Kd.R_base ho0) hb); have n1_ := Aside0.mk (Kd.R_lower (Kd.R_new' ho0 (Kd.R_lt (by (with_reducible repeat (first | apply Kd.R_alloc | apply Kd.R_drewN | apply Kd.R_drew)); exact HO214.out))) (below_size (by repeat (first | (with_reducible first | exact HB.out | apply below_alloc | apply pw_below_drewN | apply below_drew1 | refine below_set ?_ GE210.out) | exact HB.out)))); have n2_ := Aside0.mk (blk_below (g := gb210) (o := .cells #[.int .u8 a2_0, .int .u8 a2_1] 54 (0, 0)) (by (with_reducible repeat (first | refine blk_drewN ?_ _ | refine blk_drew ?_ | refine blk_alloc ?_ _)); exact BK210.out) hb); have n3_ := Aside0.mk (below_step (by repeat (first | (with_reducible first | exact HB.out | apply below_alloc | apply pw_below_drewN | apply below_drew1 | refine below_set ?_ GE210.out) | exact HB.out)) hb); clear HO214; clear BK210; clear HB; have HO214 := n0_; have HO220 := n1_; have BK210 := n2_; have HB := n3_; clear n0_ n1_ n2_ n3_; (try clear hb); (try clear hb2); (try clear hk); (try clear hi); (try clear ho0)))
   repeat (go_quiet (first | (go_at_call 31; (with_reducible refine (value_Get.calls k _ _ t211 (Int.tmod (wrap64 (a2_1)) 4) (decide (a0 < 0)) t215 t216 _ ?side1 ?side2 A10.out).mono ?_); (case side1 => repeat (first | exact (Kd.R_reads' HO214.out).2.2 | (with_reducible refine Kd.C_alloc ?_ _) | (with_reducible refine Kd.C_drewN ?_ _) | (with_reducible refine Kd.C_drew ?_))); (case side2 => exact (Kd.R_reads' HO214.out).2.1); rintro e w14 ⟨rfl, hb⟩; have n0_ := Aside0.mk (Kd.R_below (by (with_reducible repeat (first | apply Kd.R_alloc | apply Kd.R_drewN | apply Kd.R_drew)); exact HO214.out) hb); have n1_ := Aside0.mk (blk_below (g := gb210) (o := .cells #[.int .u8 a2_0, .int .u8 a2_1] 54 (0, 0)) (by (with_reducible repeat (first | refine blk_drewN ?_ _ | refine blk_drew ?_ | refine blk_alloc ?_ _)); exact BK210.out) hb); have n2_ := Aside0.mk (below_step (by repeat (first | (with_reducible first | exact HB.out | apply below_alloc | apply pw_below_drewN | apply below_drew1 | refine below_set ?_ GE210.out) | exact HB.out)) hb); clear HO214; clear BK210; clear HB; have HO214 := n0_; have BK210 := n1_; have HB := n2_; clear n0_ n1_ n2_; (try clear hb); (try clear hb2); (try clear hk); (try clear hi)) | (go_at_call 29; (with_reducible refine (value_Put.calls k a0 (wrap64 (1 + (Int.tmod (wrap64 (a2_0)) 4))) (Go.bits .xor .i64 (Int.tmod (wrap64 (a2_1)) 4) 1) t217 t218 _ A11.out).mono ?_); rintro e w15 ⟨v219, rfl, ho0, hb⟩; have n0_ := Aside0.mk (Kd.R_elder' (by (with_reducible repeat (first | apply Kd.R_alloc | apply Kd.R_drewN | apply Kd.R_drew)); exact HO214.out) (Kd.R_base ho0) hb); have n1_ := Aside0.mk (Kd.R_lower (Kd.R_new' ho0 (Kd.R_lt (by (with_reducible repeat (first | apply Kd.R_alloc | apply Kd.R_drewN | apply Kd.R_drew)); exact HO214.out))) (below_size (by repeat (first | (with_reducible first | exact HB.out | apply below_alloc | apply pw_below_drewN | apply below_drew1 | refine below_set ?_ GE210.out) | exact HB.out)))); have n2_ := Aside0.mk (blk_below (g := gb210) (o := .cells #[.int .u8 a2_0, .int .u8 a2_1] 54 (0, 0)) (by (with_reducible repeat (first | refine blk_drewN ?_ _ | refine blk_drew ?_ | refine blk_alloc ?_ _)); exact BK210.out) hb); have n3_ := Aside0.mk (below_step (by repeat (first | (with_reducible first | exact HB.out | apply below_alloc | apply pw_below_drewN | apply below_drew1 | refine below_set ?_ GE210.out) | exact HB.out)) hb); clear HO214; clear BK210; clear HB; have HO214 := n0_; have HO220 := n1_; have BK210 := n2_; have HB := n3_; clear n0_ n1_ n2_ n3_; (try clear hb); (try clear hb2); (try clear hk); (try clear hi); (try clear ho0))); go_upto_region 6 with (first | (go_at_call 31; (with_reducible refine (value_Get.calls k _ _ t211 (Int.tmod (wrap64 (a2_1)) 4) (decide (a0 < 0)) t215 t216 _ ?side1 ?side2 A10.out).mono ?_); (case side1 => repeat (first | exact (Kd.R_reads' HO214.out).2.2 | (with_reducible refine Kd.C_alloc ?_ _) | (with_reducible refine Kd.C_drewN ?_ _) | (with_reducible refine Kd.C_drew ?_))); (case side2 => exact (Kd.R_reads' HO214.out).2.1); rintro e w14 ⟨rfl, hb⟩; have n0_ := Aside0.mk (Kd.R_below (by (with_reducible repeat (first | apply Kd.R_alloc | apply Kd.R_drewN | apply Kd.R_drew)); exact HO214.out) hb); have n1_ := Aside0.mk (blk_below (g := gb210) (o := .cells #[.int .u8 a2_0, .int .u8 a2_1] 54 (0, 0)) (by (with_reducible repeat (first | refine blk_drewN ?_ _ | refine blk_drew ?_ | refine blk_alloc ?_ _)); exact BK210.out) hb); have n2_ := Aside0.mk (below_step (by repeat (first | (with_reducible first | exact HB.out | apply below_alloc | apply pw_below_drewN | apply below_drew1 | refine below_set ?_ GE210.out) | exact HB.out)) hb); clear HO214; clear BK210; clear HB; have HO214 := n0_; have BK210 := n1_; have HB := n2_; clear n0_ n1_ n2_; (try clear hb); (try clear hb2); (try clear hk); (try clear hi)) | (go_at_call 29; (with_reducible refine (value_Put.calls k a0 (wrap64 (1 + (Int.tmod (wrap64 (a2_0)) 4))) (Go.bits .xor .i64 (Int.tmod (wrap64 (a2_1)) 4) 1) t217 t218 _ A11.out).mono ?_); rintro e w15 ⟨v219, rfl, ho0, hb⟩; have n0_ := Aside0.mk (Kd.R_elder' (by (with_reducible repeat (first | apply Kd.R_alloc | apply Kd.R_drewN | apply Kd.R_drew)); exact HO214.out) (Kd.R_base ho0) hb); have n1_ := Aside0.mk (Kd.R_lower (Kd.R_new' ho0 (Kd.R_lt (by (with_reducible repeat (first | apply Kd.R_alloc | apply Kd.R_drewN | apply Kd.R_drew)); exact HO214.out))) (below_size (by repeat (first | (with_reducible first | exact HB.out | apply below_alloc | apply pw_below_drewN | apply below_drew1 | refine below_set ?_ GE210.out) | exact HB.out)))); have n2_ := Aside0.mk (blk_below (g := gb210) (o := .cells #[.int .u8 a2_0, .int .u8 a2_1] 54 (0, 0)) (by (with_reducible repeat (first | refine blk_drewN ?_ _ | refine blk_drew ?_ | refine blk_alloc ?_ _)); exact BK210.out) hb); have n3_ := Aside0.mk (below_step (by repeat (first | (with_reducible first | exact HB.out | apply below_alloc | apply pw_below_drewN | apply below_drew1 | refine below_set ?_ GE210.out) | exact HB.out)) hb); clear HO214; clear BK210; clear HB; have HO214 := n0_; have HO220 := n1_; have BK210 := n2_; have HB := n3_; clear n0_ n1_ n2_ n3_; (try clear hb); (try clear hb2); (try clear hk); (try clear hi); (try clear ho0))))
   (try simp only [Act.put, List.setIfInBounds_toArray, List.set_cons_zero, List.set_cons_succ])
   go_cut [76] (fun v76 wc => ∃ (kq : Nat) (x76_11 : Bool), v76 = .bool x76_11 ∧ Aside0 (bilgelaw40_ValueBack.j0 kq l1 (wrap64 (1 + (Int.tmod (wrap64 (a2_0)) 4))) (Int.tmod (wrap64 (a2_1)) 4) t211 t217 x76_11 a2_0 a2_1 = some r) ∧ Aside0 (kq ≤ k) ∧ Aside0 (Kd.R (Kd.int .u16) 55 wc w.heap.size (fun k_ => some k_ ≠ (v219 : Value).ownBlock) (.slice Ao13 t211.length co13) t211) ∧ Aside0 (Kd.R (Kd.int .u16) 55 wc w.heap.size (fun k_ => some k_ ≠ ((.slice Ao13 t211.length co13) : Value).ownBlock) v219 t217) ∧ Aside0 (wc.heap[gb210]? = some (.cells #[.int .u8 a2_0, .int .u8 a2_1] 54 (0, 0))) ∧ Aside0 (Below w.heap.size w wc))
   case first =>
    have H := HC12.out
    clear HC12
    by_cases c16 : t216 = 0
    ·rw [if_pos c16] at H
     have c16b0 : (t216 == 0) = true := beq_iff_eq.mpr c16
     have c16b1 : (t216 != 0) = false := bne_eq_false_iff_eq.mpr c16
     clear c16
     (first | rw [c16b0] | (simp only [i64_w, i32_w]; rw [c16b0]) | skip)
     by_cases c17 : t215 = a0
     ·rw [if_pos c17] at H
      have c17b0 : (t215 == a0) = true := beq_iff_eq.mpr c17
      have c17b1 : (t215 != a0) = false := bne_eq_false_iff_eq.mpr c17
      clear c17
      by_cases c18 : (t211.length : Int) = (wrap64 (1 + (Int.tmod (wrap64 (a2_0)) 4)))
      ·rw [if_pos c18] at H
       have c18b0 : ((t211.length : Int) == (wrap64 (1 + (Int.tmod (wrap64 (a2_0)) 4)))) = true := beq_iff_eq.mpr c18
       have c18b1 : ((t211.length : Int) != (wrap64 (1 + (Int.tmod (wrap64 (a2_0)) 4)))) = false := bne_eq_false_iff_eq.mpr c18
       clear c18
       by_cases c19 : t218 = 0
       ·rw [if_pos c19] at H
        have c19b0 : (t218 == 0) = true := beq_iff_eq.mpr c19
        have c19b1 : (t218 != 0) = false := bne_eq_false_iff_eq.mpr c19
        clear c19
        have H' := Aside0.mk H
        clear H
        obtain ⟨Ao20, co20, eo20⟩ := Kd.R_slice HO220.out
        subst eo20
        go_wp2
        repeat (go_quiet (fail); try go_wp2)
        go_meet
        case rel => exact ⟨_, (((t217.length : Int) != (wrap64 (1 + (Int.tmod (wrap64 (a2_0)) 4))))), (by first | rfl | (simp; done) | (simp [*]; done)), H', ⟨by first | omega | exact Nat.le_refl _⟩, ⟨by (with_reducible repeat (first | apply Kd.R_alloc | apply Kd.R_drewN | apply Kd.R_drew)); exact Kd.R_mono HO214.out (fun _ hk => hk.2)⟩, ⟨by (with_reducible repeat (first | apply Kd.R_alloc | apply Kd.R_drewN | apply Kd.R_drew)); exact Kd.R_mono HO220.out (fun _ hk => hk.2)⟩, ⟨by (with_reducible repeat (first | refine blk_drewN ?_ _ | refine blk_drew ?_ | refine blk_alloc ?_ _)); exact BK210.out⟩, ⟨by repeat (first | (with_reducible first | exact HB.out | apply below_alloc | apply pw_below_drewN | apply below_drew1 | refine below_set ?_ GE210.out) | exact HB.out)⟩⟩
       ·rw [if_neg c19] at H
        have c19b0 : (t218 == 0) = false := beq_eq_false_iff_ne.mpr c19
        have c19b1 : (t218 != 0) = true := bne_iff_ne.mpr c19
        have H' := Aside0.mk H
        clear H
        go_wp2
        repeat (go_quiet (fail); try go_wp2)
        go_meet
        case rel => exact ⟨_, (true), (by first | rfl | (simp; done) | (simp [*]; done)), H', ⟨by first | omega | exact Nat.le_refl _⟩, ⟨by (with_reducible repeat (first | apply Kd.R_alloc | apply Kd.R_drewN | apply Kd.R_drew)); exact Kd.R_mono HO214.out (fun _ hk => hk.2)⟩, ⟨by (with_reducible repeat (first | apply Kd.R_alloc | apply Kd.R_drewN | apply Kd.R_drew)); exact Kd.R_mono HO220.out (fun _ hk => hk.2)⟩, ⟨by (with_reducible repeat (first | refine blk_drewN ?_ _ | refine blk_drew ?_ | refine blk_alloc ?_ _)); exact BK210.out⟩, ⟨by repeat (first | (with_reducible first | exact HB.out | apply below_alloc | apply pw_below_drewN | apply below_drew1 | refine below_set ?_ GE210.out) | exact HB.out)⟩⟩
      ·rw [if_neg c18] at H
       have c18b0 : ((t211.length : Int) == (wrap64 (1 + (Int.tmod (wrap64 (a2_0)) 4)))) = false := beq_eq_false_iff_ne.mpr c18
       have c18b1 : ((t211.length : Int) != (wrap64 (1 + (Int.tmod (wrap64 (a2_0)) 4)))) = true := bne_iff_ne.mpr c18
       have H' := Aside0.mk H
       clear H
       go_wp2
       repeat (go_quiet (fail); try go_wp2)
       go_meet
       case rel => exact ⟨_, (true), (by first | rfl | (simp; done) | (simp [*]; done)), H', ⟨by first | omega | exact Nat.le_refl _⟩, ⟨by (with_reducible repeat (first | apply Kd.R_alloc | apply Kd.R_drewN | apply Kd.R_drew)); exact Kd.R_mono HO214.out (fun _ hk => hk.2)⟩, ⟨by (with_reducible repeat (first | apply Kd.R_alloc | apply Kd.R_drewN | apply Kd.R_drew)); exact Kd.R_mono HO220.out (fun _ hk => hk.2)⟩, ⟨by (with_reducible repeat (first | refine blk_drewN ?_ _ | refine blk_drew ?_ | refine blk_alloc ?_ _)); exact BK210.out⟩, ⟨by repeat (first | (with_reducible first | exact HB.out | apply below_alloc | apply pw_below_drewN | apply below_drew1 | refine below_set ?_ GE210.out) | exact HB.out)⟩⟩
     ·rw [if_neg c17] at H
      have c17b0 : (t215 == a0) = false := beq_eq_false_iff_ne.mpr c17
      have c17b1 : (t215 != a0) = true := bne_iff_ne.mpr c17
      have H' := Aside0.mk H
      clear H
      go_wp2
      repeat (go_quiet (fail); try go_wp2)
      go_meet
      case rel => exact ⟨_, (true), (by first | rfl | (simp; done) | (simp [*]; done)), H', ⟨by first | omega | exact Nat.le_refl _⟩, ⟨by (with_reducible repeat (first | apply Kd.R_alloc | apply Kd.R_drewN | apply Kd.R_drew)); exact Kd.R_mono HO214.out (fun _ hk => hk.2)⟩, ⟨by (with_reducible repeat (first | apply Kd.R_alloc | apply Kd.R_drewN | apply Kd.R_drew)); exact Kd.R_mono HO220.out (fun _ hk => hk.2)⟩, ⟨by (with_reducible repeat (first | refine blk_drewN ?_ _ | refine blk_drew ?_ | refine blk_alloc ?_ _)); exact BK210.out⟩, ⟨by repeat (first | (with_reducible first | exact HB.out | apply below_alloc | apply pw_below_drewN | apply below_drew1 | refine below_set ?_ GE210.out) | exact HB.out)⟩⟩
    ·rw [if_neg c16] at H
     have c16b0 : (t216 == 0) = false := beq_eq_false_iff_ne.mpr c16
     have c16b1 : (t216 != 0) = true := bne_iff_ne.mpr c16
     (first | rw [c16b0] | (simp only [i64_w, i32_w]; rw [c16b0]) | skip)
     have H' := Aside0.mk H
     clear H
     go_wp2
     repeat (go_quiet (fail); try go_wp2)
     go_meet
     case rel => exact ⟨_, (true), (by first | rfl | (simp; done) | (simp [*]; done)), H', ⟨by first | omega | exact Nat.le_refl _⟩, ⟨by (with_reducible repeat (first | apply Kd.R_alloc | apply Kd.R_drewN | apply Kd.R_drew)); exact Kd.R_mono HO214.out (fun _ hk => hk.2)⟩, ⟨by (with_reducible repeat (first | apply Kd.R_alloc | apply Kd.R_drewN | apply Kd.R_drew)); exact Kd.R_mono HO220.out (fun _ hk => hk.2)⟩, ⟨by (with_reducible repeat (first | refine blk_drewN ?_ _ | refine blk_drew ?_ | refine blk_alloc ?_ _)); exact BK210.out⟩, ⟨by repeat (first | (with_reducible first | exact HB.out | apply below_alloc | apply pw_below_drewN | apply below_drew1 | refine below_set ?_ GE210.out) | exact HB.out)⟩⟩
   case rest =>
    clear HC12
    try clear c1
    try clear p2
    try clear p6
    try clear c8
    try clear c9
    try clear c9b0
    try clear c9b1
    try clear c16
    try clear c16b0
    try clear c16b1
    try clear c17
    try clear c17b0
    try clear c17b1
    try clear c18
    try clear c18b0
    try clear c18b1
    try clear c19
    try clear c19b0
    try clear c19b1
    try clear hcz7_0
    try clear hcz7_1
    try clear hfz7_0
    try clear hfz7_1
    obtain ⟨kq, x76_11, rfl, HA, HJ11, HO_9, HO_13, BK210, HB⟩ := hcut
    cases kq with
    | zero => exact absurd HA.out (by simp [bilgelaw40_ValueBack.j0])
    | succ kj11 =>
     have H := HA.out
     clear HA
     simp only [bilgelaw40_ValueBack.j0] at H
     by_cases c21 : x76_11 = true
     ·subst c21
      have H1 : (none) = some r := by rw [if_pos rfl] at H; exact H
      clear H
      have H := H1
      clear H1
      exact absurd H (by simp)
     ·replace c21 := Bool.eq_false_iff.mpr c21
      subst c21
      have H1 : (bilgelaw40_ValueBack.l0 kj11 l1 (wrap64 (1 + (Int.tmod (wrap64 (a2_0)) 4))) (Int.tmod (wrap64 (a2_1)) 4) t211 t217 0 a2_0 a2_1) = some r := by rw [if_neg (show ¬ (false = true) by decide)] at H; exact H
      clear H
      have H := H1
      clear H1
      have H' := Aside0.mk H
      clear H
      go_wp2
      repeat (go_quiet (fail); try go_wp2)
      go_loopg [15] kj11 (fun kq v15 w' => ∃ (x15_2 : Int), v15 = .int .i64 x15_2 ∧ Aside0 (bilgelaw40_ValueBack.l0 kq l1 (wrap64 (1 + (Int.tmod (wrap64 (a2_0)) 4))) (Int.tmod (wrap64 (a2_1)) 4) t211 t217 x15_2 a2_0 a2_1 = some r) ∧ Aside0 (kq ≤ kj11) ∧ Aside0 (Kd.R (Kd.int .u16) 55 w' w.heap.size (fun k_ => some k_ ≠ (v219 : Value).ownBlock) (.slice Ao13 t211.length co13) t211) ∧ Aside0 (Kd.R (Kd.int .u16) 55 w' w.heap.size (fun k_ => some k_ ≠ ((.slice Ao13 t211.length co13) : Value).ownBlock) v219 t217) ∧ Aside0 (w'.heap[gb210]? = some (.cells #[.int .u8 a2_0, .int .u8 a2_1] 54 (0, 0))) ∧ Aside0 (Below w.heap.size w w'))
      case atStart => exact ⟨(0), (by first | rfl | (simp; done) | (simp [*]; done)), H', ⟨Nat.le_refl _⟩, ⟨by (with_reducible repeat (first | apply Kd.R_alloc | apply Kd.R_drewN | apply Kd.R_drew)); exact HO_9.out⟩, ⟨by (with_reducible repeat (first | apply Kd.R_alloc | apply Kd.R_drewN | apply Kd.R_drew)); exact HO_13.out⟩, ⟨by (with_reducible repeat (first | refine blk_drewN ?_ _ | refine blk_drew ?_ | refine blk_alloc ?_ _)); exact BK210.out⟩, ⟨by repeat (first | (with_reducible first | exact HB.out | apply below_alloc | apply pw_below_drewN | apply below_drew1 | refine below_set ?_ GE210.out) | exact HB.out)⟩⟩
      case round =>
       clear H'
       try clear c1
       try clear c2
       try clear p2
       try clear p6
       try clear c8
       try clear c9
       try clear c9b0
       try clear c9b1
       try clear c16
       try clear c16b0
       try clear c16b1
       try clear c17
       try clear c17b0
       try clear c17b1
       try clear c18
       try clear c18b0
       try clear c18b1
       try clear c19
       try clear c19b0
       try clear c19b1
       try clear c21
       try clear hcz7_0
       try clear hcz7_1
       try clear hfz7_0
       try clear hfz7_1
       try clear p2
       try clear p6
       obtain ⟨x15_2, rfl, HA, HK2, HO_9, HO_13, BK210, HB⟩ := hrel
       cases gk with
       | zero => exact absurd HA.out (by simp [bilgelaw40_ValueBack.l0])
       | succ k2 =>
        have H := HA.out
        clear HA
        simp only [bilgelaw40_ValueBack.l0] at H
        by_cases c22 : x15_2 < (wrap64 (1 + (Int.tmod (wrap64 (a2_0)) 4)))
        ·rw [if_pos c22] at H
         have c22b0 : decide (x15_2 < (wrap64 (1 + (Int.tmod (wrap64 (a2_0)) 4)))) = true := decide_eq_true c22
         clear c22
         by_cases c23 : 0 ≤ x15_2
         ·rw [if_pos c23] at H
          have c23b0 : decide (0 ≤ x15_2) = true := decide_eq_true c23
          clear c23
          by_cases c24 : x15_2 < (t211.length : Int)
          ·rw [if_pos c24] at H
           have c24b0 : decide (x15_2 < (t211.length : Int)) = true := decide_eq_true c24
           clear c24
           obtain ⟨ji25, hji25⟩ : ∃ j_ : Int, (wrap64 ((wrap64 ((wrap64 (1 + (Int.tmod (wrap64 (a2_0)) 4))) - 1)) - x15_2)) = j_ := ⟨_, rfl⟩
           replace H : (if 0 ≤ (ji25) then (if (ji25) < (t217.length : Int) then (if (rd t211 x15_2) = (rd t217 (ji25)) then (bilgelaw40_ValueBack.l0 k2 l1 (wrap64 (1 + (Int.tmod (wrap64 (a2_0)) 4))) (Int.tmod (wrap64 (a2_1)) 4) t211 t217 (wrap64 (x15_2 + 1)) a2_0 a2_1) else (none)) else (none)) else (none)) = some r := by first | (rw [hji25] at H; exact H) | (simp only [hji25] at H ⊢; exact H)
           have hji25w : (IntKind.i64.wrap ((wrap64 ((wrap64 (1 + (Int.tmod (wrap64 (a2_0)) 4))) - 1)) - x15_2)) = ji25 := (i64_w _).trans hji25
           by_cases c26 : 0 ≤ (ji25)
           ·rw [if_pos c26] at H
            have c26b0 : decide (0 ≤ (ji25)) = true := decide_eq_true c26
            clear c26
            by_cases c27 : (ji25) < (t217.length : Int)
            ·rw [if_pos c27] at H
             have c27b0 : decide ((ji25) < (t217.length : Int)) = true := decide_eq_true c27
             clear c27
             by_cases c28 : (rd t211 x15_2) = (rd t217 (ji25))
             ·rw [if_pos c28] at H
              have c28b0 : ((rd t211 x15_2) == (rd t217 (ji25))) = true := beq_iff_eq.mpr c28
              have c28b1 : ((rd t211 x15_2) != (rd t217 (ji25))) = false := bne_eq_false_iff_eq.mpr c28
              clear c28
              have H' := Aside0.mk H
              clear H
              have p221 : 0 ≤ (x15_2 : Int) := of_decide_eq_true (by first | (with_reducible assumption) | assumption)
              have q221 : x15_2 < (t211.length : Int) := of_decide_eq_true (by first | (with_reducible assumption) | assumption)
              obtain ⟨ad221, e221, hx221_0⟩ := Kd.at_int (Kd.R_reads' HO_9.out).2.2 x15_2 p221 q221
              cases e221
              replace p221 := eq_true p221
              replace q221 := eq_true q221
              obtain ⟨Ao29, co29, eo29⟩ := Kd.R_slice HO_13.out
              subst eo29
              have p222 : 0 ≤ ((ji25) : Int) := of_decide_eq_true (by first | (with_reducible assumption) | assumption)
              have q222 : (ji25) < (t217.length : Int) := of_decide_eq_true (by first | (with_reducible assumption) | assumption)
              obtain ⟨ad222, e222, hx222_0⟩ := Kd.at_int (Kd.R_reads' HO_13.out).2.2 (ji25) p222 q222
              cases e222
              replace p222 := eq_true p222
              replace q222 := eq_true q222
              go_wp2
              all_goals try (first | exact absurd (of_decide_eq_true c22b0) (by assumption) | exact absurd (of_decide_eq_true c23b0) (by assumption) | exact absurd (of_decide_eq_true c24b0) (by assumption) | exact absurd (of_decide_eq_true c26b0) (by assumption) | exact absurd (of_decide_eq_true c27b0) (by assumption))
              repeat (go_quiet (fail); try go_wp2)
              go_roundg k2
              case measure => have := HJ11.out; have := HK2.out; omega
              case rel => exact ⟨(wrap64 (x15_2 + 1)), (by first | rfl | (simp; done) | (simp [*]; done)), H', ⟨by have := HJ11.out; have := HK2.out; omega⟩, ⟨by (with_reducible repeat (first | apply Kd.R_alloc | apply Kd.R_drewN | apply Kd.R_drew)); exact HO_9.out⟩, ⟨by (with_reducible repeat (first | apply Kd.R_alloc | apply Kd.R_drewN | apply Kd.R_drew)); exact HO_13.out⟩, ⟨by (with_reducible repeat (first | refine blk_drewN ?_ _ | refine blk_drew ?_ | refine blk_alloc ?_ _)); exact BK210.out⟩, ⟨by repeat (first | (with_reducible first | exact HB.out | apply below_alloc | apply pw_below_drewN | apply below_drew1 | refine below_set ?_ GE210.out) | exact HB.out)⟩⟩
             ·rw [if_neg c28] at H
              exact absurd H (by simp)
            ·rw [if_neg c27] at H
             exact absurd H (by simp)
           ·rw [if_neg c26] at H
            exact absurd H (by simp)
          ·rw [if_neg c24] at H
           exact absurd H (by simp)
         ·rw [if_neg c23] at H
          exact absurd H (by simp)
        ·rw [if_neg c22] at H
         have c22b0 : decide (x15_2 < (wrap64 (1 + (Int.tmod (wrap64 (a2_0)) 4)))) = false := decide_eq_false c22
         clear c22
         have H' := Aside0.mk H
         clear H
         go_wp2
         all_goals try (first | exact absurd (by assumption) (of_decide_eq_false c22b0))
         repeat (go_quiet (fail); try go_wp2)
         go_meet
         case rel => exact ⟨_, H', ⟨by have := HJ11.out; have := HK2.out; first | omega | exact Nat.le_refl _⟩, ⟨by (with_reducible repeat (first | refine blk_drewN ?_ _ | refine blk_drew ?_ | refine blk_alloc ?_ _)); exact BK210.out⟩, ⟨by repeat (first | (with_reducible first | exact HB.out | apply below_alloc | apply pw_below_drewN | apply below_drew1 | refine below_set ?_ GE210.out) | exact HB.out)⟩⟩
  ·rw [if_neg c9] at H
   have c9b0 : (t212 == 0) = false := beq_eq_false_iff_ne.mpr c9
   have c9b1 : (t212 != 0) = true := bne_iff_ne.mpr c9
   (first | rw [c9b0] | (simp only [i64_w, i32_w]; rw [c9b0]) | skip)
   have H' := Aside0.mk H
   clear H
   go_wp2
   repeat (go_quiet (fail); try go_wp2)
   go_meet
   case rel => exact ⟨_, H', ⟨by first | omega | exact Nat.le_refl _⟩, ⟨by (with_reducible repeat (first | refine blk_drewN ?_ _ | refine blk_drew ?_ | refine blk_alloc ?_ _)); exact BK210.out⟩, ⟨by repeat (first | (with_reducible first | exact HB.out | apply below_alloc | apply pw_below_drewN | apply below_drew1 | refine below_set ?_ GE210.out) | exact HB.out)⟩⟩
 case rest =>
  clear HC5
  try clear c1
  try clear c2
  try clear p2
  try clear q2
  try clear hx2
  try clear p6
  try clear c8
  try clear c9
  try clear c9b0
  try clear c9b1
  try clear c16
  try clear c16b0
  try clear c16b1
  try clear c17
  try clear c17b0
  try clear c17b1
  try clear c18
  try clear c18b0
  try clear c18b1
  try clear c19
  try clear c19b0
  try clear c19b1
  try clear c21
  try clear c22
  try clear c22b0
  try clear p22
  try clear q22
  try clear hx22
  try clear c23
  try clear c23b0
  try clear c24
  try clear c24b0
  try clear c26
  try clear c26b0
  try clear c27
  try clear c27b0
  try clear c28
  try clear c28b0
  try clear c28b1
  try clear hcz7_0
  try clear hcz7_1
  try clear hfz7_0
  try clear hfz7_1
  try clear hx221_0
  try clear hx222_0
  try clear p2
  try clear p221
  try clear p222
  try clear p6
  try clear q221
  try clear q222
  obtain ⟨kq, HA, HJ4, BK210, HB⟩ := hcut
  cases kq with
  | zero => exact absurd HA.out (by simp [bilgelaw40_ValueBack.j2])
  | succ kj4 =>
   have H := HA.out
   clear HA
   simp only [bilgelaw40_ValueBack.j2] at H
   replace H := Option.bind_eq_some_iff.mp H
   obtain ⟨⟨t223, t224⟩, A300, H⟩ := H
   replace H : (if t224 = 0 then ((value_Put.f kj4 t223 (l1.length : Int) (Int.tmod (wrap64 (a2_1)) 4)).bind fun bt225 => (if bt225.2 = 0 then ((bilgeref01_Words.f kj4 bt225.1 l1).bind fun t229 => (if t229 = true then ((bilgelaw40_sure.f kj4).bind fun t230 => (some t230)) else (none))) else (none))) else (if (l1.length : Int) < 1 then ((bilgelaw40_sure.f kj4).bind fun t231 => (some t231)) else (if (l1.length : Int) > 4 then ((bilgelaw40_sure.f kj4).bind fun t232 => (some t232)) else (none)))) = some r := H
   have A30 := Aside0.mk A300
   clear A300
   by_cases c31 : t224 = 0
   ·rw [if_pos c31] at H
    have c31b0 : (t224 == 0) = true := beq_iff_eq.mpr c31
    have c31b1 : (t224 != 0) = false := bne_eq_false_iff_eq.mpr c31
    clear c31
    replace H := Option.bind_eq_some_iff.mp H
    obtain ⟨⟨t225, t226⟩, A320, H⟩ := H
    replace H : (if t226 = 0 then ((bilgeref01_Words.f kj4 t225 l1).bind fun t229 => (if t229 = true then ((bilgelaw40_sure.f kj4).bind fun t230 => (some t230)) else (none))) else (none)) = some r := H
    have A32 := Aside0.mk A320
    clear A320
    by_cases c33 : t226 = 0
    ·rw [if_pos c33] at H
     have c33b0 : (t226 == 0) = true := beq_iff_eq.mpr c33
     have c33b1 : (t226 != 0) = false := bne_eq_false_iff_eq.mpr c33
     clear c33
     replace H := Option.bind_eq_some_iff.mp H
     obtain ⟨t229, A340, H⟩ := H
     replace H : (if t229 = true then ((bilgelaw40_sure.f kj4).bind fun t230 => (some t230)) else (none)) = some r := H
     have A34 := Aside0.mk A340
     clear A340
     by_cases c35 : t229 = true
     ·subst c35
      have H1 : ((bilgelaw40_sure.f kj4).bind fun t230 => (some t230)) = some r := by rw [if_pos rfl] at H; exact H
      clear H
      have H := H1
      clear H1
      replace H := Option.bind_eq_some_iff.mp H
      obtain ⟨t230, A360, H⟩ := H
      replace H : (some t230) = some r := H
      have A36 := Aside0.mk A360
      clear A360
      obtain rfl := Option.some.inj H
      have hcz37_0 : wc.cell? ⟨gb210, 0, none⟩ = some (.int .u8 a2_0) := (blk_cell BK210.out 0).trans rfl
      have hcz37_1 : wc.cell? ⟨gb210, 1, none⟩ = some (.int .u8 a2_1) := (blk_cell BK210.out 1).trans rfl
      have hfz37_0 := blk_frozen BK210.out 0
      have hfz37_1 := blk_frozen BK210.out 1
      go_wp2_with (first | (go_at_call 31; (with_reducible refine (value_Get.calls kj4 _ _ l1 (Int.tmod (wrap64 (a2_1)) 4) (decide (a2_0 ≥ 128)) t223 t224 _ ?side1 ?side2 A30.out).mono ?_); (case side1 => repeat (first | exact (Kd.C_below HR1.out HB.out) | (with_reducible refine Kd.C_alloc ?_ _) | (with_reducible refine Kd.C_drewN ?_ _) | (with_reducible refine Kd.C_drew ?_))); (case side2 => exact HC1.out); rintro e w38 ⟨rfl, hb⟩; have n0_ := Aside0.mk (blk_below (g := gb210) (o := .cells #[.int .u8 a2_0, .int .u8 a2_1] 54 (0, 0)) (by (with_reducible repeat (first | refine blk_drewN ?_ _ | refine blk_drew ?_ | refine blk_alloc ?_ _)); exact BK210.out) hb); have n1_ := Aside0.mk (below_step (by repeat (first | (with_reducible first | exact HB.out | apply below_alloc | apply pw_below_drewN | apply below_drew1 | refine below_set ?_ GE210.out) | exact HB.out)) hb); clear BK210; clear HB; have BK210 := n0_; have HB := n1_; clear n0_ n1_; (try clear hb); (try clear hb2); (try clear hk); (try clear hi)) | (go_at_call 29; (with_reducible refine (value_Put.calls kj4 t223 (l1.length : Int) (Int.tmod (wrap64 (a2_1)) 4) t225 t226 _ A32.out).mono ?_); rintro e w39 ⟨v227, rfl, ho0, hb⟩; have n0_ := Aside0.mk (Kd.R_lower ho0 (below_size (by repeat (first | (with_reducible first | exact HB.out | apply below_alloc | apply pw_below_drewN | apply below_drew1 | refine below_set ?_ GE210.out) | exact HB.out)))); have n1_ := Aside0.mk (blk_below (g := gb210) (o := .cells #[.int .u8 a2_0, .int .u8 a2_1] 54 (0, 0)) (by (with_reducible repeat (first | refine blk_drewN ?_ _ | refine blk_drew ?_ | refine blk_alloc ?_ _)); exact BK210.out) hb); have n2_ := Aside0.mk (below_step (by repeat (first | (with_reducible first | exact HB.out | apply below_alloc | apply pw_below_drewN | apply below_drew1 | refine below_set ?_ GE210.out) | exact HB.out)) hb); clear BK210; clear HB; have HO228 := n0_; have BK210 := n1_; have HB := n2_; clear n0_ n1_ n2_; (try clear hb); (try clear hb2); (try clear hk); (try clear hi); (try clear ho0); obtain ⟨Ao40, co40, eo40⟩ := Kd.R_slice HO228.out; subst eo40) | (go_at_call 33; (with_reducible refine (bilgeref01_Words.calls kj4 _ _ t225 _ _ l1 true _ ?side1 ?side2 ?side3 ?side4 A34.out).mono ?_); (case side1 => repeat (first | exact (Kd.R_reads' HO228.out).2.2 | (with_reducible refine Kd.C_alloc ?_ _) | (with_reducible refine Kd.C_drewN ?_ _) | (with_reducible refine Kd.C_drew ?_))); (case side2 => exact (Kd.R_reads' HO228.out).2.1); (case side3 => repeat (first | exact (Kd.C_below HR1.out HB.out) | (with_reducible refine Kd.C_alloc ?_ _) | (with_reducible refine Kd.C_drewN ?_ _) | (with_reducible refine Kd.C_drew ?_))); (case side4 => exact HC1.out); rintro e w' ⟨rfl, ⟨nd, rfl⟩⟩; (try first | exact ⟨rfl, _, World.drewN_drewN _ _ _⟩ | exact ⟨rfl, _, Eq.trans (World.drewN_drewN _ _ _) (congrArg (World.drewN _) (Nat.add_assoc _ _ _))⟩)) | (go_at_call 28; (with_reducible refine (bilgelaw40_sure.calls kj4  t230 _ A36.out).mono ?_); rintro e w41 ⟨rfl, hb⟩; have n0_ := Aside0.mk (Kd.R_below (by (with_reducible repeat (first | apply Kd.R_alloc | apply Kd.R_drewN | apply Kd.R_drew)); exact HO228.out) hb); have n1_ := Aside0.mk (blk_below (g := gb210) (o := .cells #[.int .u8 a2_0, .int .u8 a2_1] 54 (0, 0)) (by (with_reducible repeat (first | refine blk_drewN ?_ _ | refine blk_drew ?_ | refine blk_alloc ?_ _)); exact BK210.out) hb); have n2_ := Aside0.mk (below_step (by repeat (first | (with_reducible first | exact HB.out | apply below_alloc | apply pw_below_drewN | apply below_drew1 | refine below_set ?_ GE210.out) | exact HB.out)) hb); clear HO228; clear BK210; clear HB; have HO228 := n0_; have BK210 := n1_; have HB := n2_; clear n0_ n1_ n2_; (try clear hb); (try clear hb2); (try clear hk); (try clear hi)))
      repeat (go_quiet (first | (go_at_call 31; (with_reducible refine (value_Get.calls kj4 _ _ l1 (Int.tmod (wrap64 (a2_1)) 4) (decide (a2_0 ≥ 128)) t223 t224 _ ?side1 ?side2 A30.out).mono ?_); (case side1 => repeat (first | exact (Kd.C_below HR1.out HB.out) | (with_reducible refine Kd.C_alloc ?_ _) | (with_reducible refine Kd.C_drewN ?_ _) | (with_reducible refine Kd.C_drew ?_))); (case side2 => exact HC1.out); rintro e w38 ⟨rfl, hb⟩; have n0_ := Aside0.mk (blk_below (g := gb210) (o := .cells #[.int .u8 a2_0, .int .u8 a2_1] 54 (0, 0)) (by (with_reducible repeat (first | refine blk_drewN ?_ _ | refine blk_drew ?_ | refine blk_alloc ?_ _)); exact BK210.out) hb); have n1_ := Aside0.mk (below_step (by repeat (first | (with_reducible first | exact HB.out | apply below_alloc | apply pw_below_drewN | apply below_drew1 | refine below_set ?_ GE210.out) | exact HB.out)) hb); clear BK210; clear HB; have BK210 := n0_; have HB := n1_; clear n0_ n1_; (try clear hb); (try clear hb2); (try clear hk); (try clear hi)) | (go_at_call 29; (with_reducible refine (value_Put.calls kj4 t223 (l1.length : Int) (Int.tmod (wrap64 (a2_1)) 4) t225 t226 _ A32.out).mono ?_); rintro e w39 ⟨v227, rfl, ho0, hb⟩; have n0_ := Aside0.mk (Kd.R_lower ho0 (below_size (by repeat (first | (with_reducible first | exact HB.out | apply below_alloc | apply pw_below_drewN | apply below_drew1 | refine below_set ?_ GE210.out) | exact HB.out)))); have n1_ := Aside0.mk (blk_below (g := gb210) (o := .cells #[.int .u8 a2_0, .int .u8 a2_1] 54 (0, 0)) (by (with_reducible repeat (first | refine blk_drewN ?_ _ | refine blk_drew ?_ | refine blk_alloc ?_ _)); exact BK210.out) hb); have n2_ := Aside0.mk (below_step (by repeat (first | (with_reducible first | exact HB.out | apply below_alloc | apply pw_below_drewN | apply below_drew1 | refine below_set ?_ GE210.out) | exact HB.out)) hb); clear BK210; clear HB; have HO228 := n0_; have BK210 := n1_; have HB := n2_; clear n0_ n1_ n2_; (try clear hb); (try clear hb2); (try clear hk); (try clear hi); (try clear ho0); obtain ⟨Ao40, co40, eo40⟩ := Kd.R_slice HO228.out; subst eo40) | (go_at_call 33; (with_reducible refine (bilgeref01_Words.calls kj4 _ _ t225 _ _ l1 true _ ?side1 ?side2 ?side3 ?side4 A34.out).mono ?_); (case side1 => repeat (first | exact (Kd.R_reads' HO228.out).2.2 | (with_reducible refine Kd.C_alloc ?_ _) | (with_reducible refine Kd.C_drewN ?_ _) | (with_reducible refine Kd.C_drew ?_))); (case side2 => exact (Kd.R_reads' HO228.out).2.1); (case side3 => repeat (first | exact (Kd.C_below HR1.out HB.out) | (with_reducible refine Kd.C_alloc ?_ _) | (with_reducible refine Kd.C_drewN ?_ _) | (with_reducible refine Kd.C_drew ?_))); (case side4 => exact HC1.out); rintro e w' ⟨rfl, ⟨nd, rfl⟩⟩; (try first | exact ⟨rfl, _, World.drewN_drewN _ _ _⟩ | exact ⟨rfl, _, Eq.trans (World.drewN_drewN _ _ _) (congrArg (World.drewN _) (Nat.add_assoc _ _ _))⟩)) | (go_at_call 28; (with_reducible refine (bilgelaw40_sure.calls kj4  t230 _ A36.out).mono ?_); rintro e w41 ⟨rfl, hb⟩; have n0_ := Aside0.mk (Kd.R_below (by (with_reducible repeat (first | apply Kd.R_alloc | apply Kd.R_drewN | apply Kd.R_drew)); exact HO228.out) hb); have n1_ := Aside0.mk (blk_below (g := gb210) (o := .cells #[.int .u8 a2_0, .int .u8 a2_1] 54 (0, 0)) (by (with_reducible repeat (first | refine blk_drewN ?_ _ | refine blk_drew ?_ | refine blk_alloc ?_ _)); exact BK210.out) hb); have n2_ := Aside0.mk (below_step (by repeat (first | (with_reducible first | exact HB.out | apply below_alloc | apply pw_below_drewN | apply below_drew1 | refine below_set ?_ GE210.out) | exact HB.out)) hb); clear HO228; clear BK210; clear HB; have HO228 := n0_; have BK210 := n1_; have HB := n2_; clear n0_ n1_ n2_; (try clear hb); (try clear hb2); (try clear hk); (try clear hi))); try go_wp2_with (first | (go_at_call 31; (with_reducible refine (value_Get.calls kj4 _ _ l1 (Int.tmod (wrap64 (a2_1)) 4) (decide (a2_0 ≥ 128)) t223 t224 _ ?side1 ?side2 A30.out).mono ?_); (case side1 => repeat (first | exact (Kd.C_below HR1.out HB.out) | (with_reducible refine Kd.C_alloc ?_ _) | (with_reducible refine Kd.C_drewN ?_ _) | (with_reducible refine Kd.C_drew ?_))); (case side2 => exact HC1.out); rintro e w38 ⟨rfl, hb⟩; have n0_ := Aside0.mk (blk_below (g := gb210) (o := .cells #[.int .u8 a2_0, .int .u8 a2_1] 54 (0, 0)) (by (with_reducible repeat (first | refine blk_drewN ?_ _ | refine blk_drew ?_ | refine blk_alloc ?_ _)); exact BK210.out) hb); have n1_ := Aside0.mk (below_step (by repeat (first | (with_reducible first | exact HB.out | apply below_alloc | apply pw_below_drewN | apply below_drew1 | refine below_set ?_ GE210.out) | exact HB.out)) hb); clear BK210; clear HB; have BK210 := n0_; have HB := n1_; clear n0_ n1_; (try clear hb); (try clear hb2); (try clear hk); (try clear hi)) | (go_at_call 29; (with_reducible refine (value_Put.calls kj4 t223 (l1.length : Int) (Int.tmod (wrap64 (a2_1)) 4) t225 t226 _ A32.out).mono ?_); rintro e w39 ⟨v227, rfl, ho0, hb⟩; have n0_ := Aside0.mk (Kd.R_lower ho0 (below_size (by repeat (first | (with_reducible first | exact HB.out | apply below_alloc | apply pw_below_drewN | apply below_drew1 | refine below_set ?_ GE210.out) | exact HB.out)))); have n1_ := Aside0.mk (blk_below (g := gb210) (o := .cells #[.int .u8 a2_0, .int .u8 a2_1] 54 (0, 0)) (by (with_reducible repeat (first | refine blk_drewN ?_ _ | refine blk_drew ?_ | refine blk_alloc ?_ _)); exact BK210.out) hb); have n2_ := Aside0.mk (below_step (by repeat (first | (with_reducible first | exact HB.out | apply below_alloc | apply pw_below_drewN | apply below_drew1 | refine below_set ?_ GE210.out) | exact HB.out)) hb); clear BK210; clear HB; have HO228 := n0_; have BK210 := n1_; have HB := n2_; clear n0_ n1_ n2_; (try clear hb); (try clear hb2); (try clear hk); (try clear hi); (try clear ho0); obtain ⟨Ao40, co40, eo40⟩ := Kd.R_slice HO228.out; subst eo40) | (go_at_call 33; (with_reducible refine (bilgeref01_Words.calls kj4 _ _ t225 _ _ l1 true _ ?side1 ?side2 ?side3 ?side4 A34.out).mono ?_); (case side1 => repeat (first | exact (Kd.R_reads' HO228.out).2.2 | (with_reducible refine Kd.C_alloc ?_ _) | (with_reducible refine Kd.C_drewN ?_ _) | (with_reducible refine Kd.C_drew ?_))); (case side2 => exact (Kd.R_reads' HO228.out).2.1); (case side3 => repeat (first | exact (Kd.C_below HR1.out HB.out) | (with_reducible refine Kd.C_alloc ?_ _) | (with_reducible refine Kd.C_drewN ?_ _) | (with_reducible refine Kd.C_drew ?_))); (case side4 => exact HC1.out); rintro e w' ⟨rfl, ⟨nd, rfl⟩⟩; (try first | exact ⟨rfl, _, World.drewN_drewN _ _ _⟩ | exact ⟨rfl, _, Eq.trans (World.drewN_drewN _ _ _) (congrArg (World.drewN _) (Nat.add_assoc _ _ _))⟩)) | (go_at_call 28; (with_reducible refine (bilgelaw40_sure.calls kj4  t230 _ A36.out).mono ?_); rintro e w41 ⟨rfl, hb⟩; have n0_ := Aside0.mk (Kd.R_below (by (with_reducible repeat (first | apply Kd.R_alloc | apply Kd.R_drewN | apply Kd.R_drew)); exact HO228.out) hb); have n1_ := Aside0.mk (blk_below (g := gb210) (o := .cells #[.int .u8 a2_0, .int .u8 a2_1] 54 (0, 0)) (by (with_reducible repeat (first | refine blk_drewN ?_ _ | refine blk_drew ?_ | refine blk_alloc ?_ _)); exact BK210.out) hb); have n2_ := Aside0.mk (below_step (by repeat (first | (with_reducible first | exact HB.out | apply below_alloc | apply pw_below_drewN | apply below_drew1 | refine below_set ?_ GE210.out) | exact HB.out)) hb); clear HO228; clear BK210; clear HB; have HO228 := n0_; have BK210 := n1_; have HB := n2_; clear n0_ n1_ n2_; (try clear hb); (try clear hb2); (try clear hk); (try clear hi))))
      go_ret
      exact ⟨by first | rfl | (simp [errW_none, errW_some] <;> rfl) | (simp [*, errW_none, errW_some] <;> rfl), by repeat (first | (with_reducible first | exact HB.out | apply below_alloc | apply pw_below_drewN | apply below_drew1 | refine below_set ?_ GE210.out) | exact HB.out)⟩
     ·replace c35 := Bool.eq_false_iff.mpr c35
      subst c35
      have H1 : (none) = some r := by rw [if_neg (show ¬ (false = true) by decide)] at H; exact H
      clear H
      have H := H1
      clear H1
      exact absurd H (by simp)
    ·rw [if_neg c33] at H
     exact absurd H (by simp)
   ·rw [if_neg c31] at H
    have c31b0 : (t224 == 0) = false := beq_eq_false_iff_ne.mpr c31
    have c31b1 : (t224 != 0) = true := bne_iff_ne.mpr c31
    by_cases c42 : (l1.length : Int) < 1
    ·rw [if_pos c42] at H
     have c42b0 : decide ((l1.length : Int) < 1) = true := decide_eq_true c42
     have c42b1 : decide (l1.length < 1) = true := decide_eq_true (by omega)
     clear c42
     replace H := Option.bind_eq_some_iff.mp H
     obtain ⟨t231, A430, H⟩ := H
     replace H : (some t231) = some r := H
     have A43 := Aside0.mk A430
     clear A430
     obtain rfl := Option.some.inj H
     have hcz44_0 : wc.cell? ⟨gb210, 0, none⟩ = some (.int .u8 a2_0) := (blk_cell BK210.out 0).trans rfl
     have hcz44_1 : wc.cell? ⟨gb210, 1, none⟩ = some (.int .u8 a2_1) := (blk_cell BK210.out 1).trans rfl
     have hfz44_0 := blk_frozen BK210.out 0
     have hfz44_1 := blk_frozen BK210.out 1
     go_wp2_with (first | (go_at_call 31; (with_reducible refine (value_Get.calls kj4 _ _ l1 (Int.tmod (wrap64 (a2_1)) 4) (decide (a2_0 ≥ 128)) t223 t224 _ ?side1 ?side2 A30.out).mono ?_); (case side1 => repeat (first | exact (Kd.C_below HR1.out HB.out) | (with_reducible refine Kd.C_alloc ?_ _) | (with_reducible refine Kd.C_drewN ?_ _) | (with_reducible refine Kd.C_drew ?_))); (case side2 => exact HC1.out); rintro e w45 ⟨rfl, hb⟩; have n0_ := Aside0.mk (blk_below (g := gb210) (o := .cells #[.int .u8 a2_0, .int .u8 a2_1] 54 (0, 0)) (by (with_reducible repeat (first | refine blk_drewN ?_ _ | refine blk_drew ?_ | refine blk_alloc ?_ _)); exact BK210.out) hb); have n1_ := Aside0.mk (below_step (by repeat (first | (with_reducible first | exact HB.out | apply below_alloc | apply pw_below_drewN | apply below_drew1 | refine below_set ?_ GE210.out) | exact HB.out)) hb); clear BK210; clear HB; have BK210 := n0_; have HB := n1_; clear n0_ n1_; (try clear hb); (try clear hb2); (try clear hk); (try clear hi)) | (go_at_call 28; (with_reducible refine (bilgelaw40_sure.calls kj4  t231 _ A43.out).mono ?_); rintro e w46 ⟨rfl, hb⟩; have n0_ := Aside0.mk (blk_below (g := gb210) (o := .cells #[.int .u8 a2_0, .int .u8 a2_1] 54 (0, 0)) (by (with_reducible repeat (first | refine blk_drewN ?_ _ | refine blk_drew ?_ | refine blk_alloc ?_ _)); exact BK210.out) hb); have n1_ := Aside0.mk (below_step (by repeat (first | (with_reducible first | exact HB.out | apply below_alloc | apply pw_below_drewN | apply below_drew1 | refine below_set ?_ GE210.out) | exact HB.out)) hb); clear BK210; clear HB; have BK210 := n0_; have HB := n1_; clear n0_ n1_; (try clear hb); (try clear hb2); (try clear hk); (try clear hi)))
     all_goals try (first | exact absurd (of_decide_eq_true c42b0) (by assumption) | exact absurd (of_decide_eq_true c42b1) (by assumption))
     repeat (go_quiet (first | (go_at_call 31; (with_reducible refine (value_Get.calls kj4 _ _ l1 (Int.tmod (wrap64 (a2_1)) 4) (decide (a2_0 ≥ 128)) t223 t224 _ ?side1 ?side2 A30.out).mono ?_); (case side1 => repeat (first | exact (Kd.C_below HR1.out HB.out) | (with_reducible refine Kd.C_alloc ?_ _) | (with_reducible refine Kd.C_drewN ?_ _) | (with_reducible refine Kd.C_drew ?_))); (case side2 => exact HC1.out); rintro e w45 ⟨rfl, hb⟩; have n0_ := Aside0.mk (blk_below (g := gb210) (o := .cells #[.int .u8 a2_0, .int .u8 a2_1] 54 (0, 0)) (by (with_reducible repeat (first | refine blk_drewN ?_ _ | refine blk_drew ?_ | refine blk_alloc ?_ _)); exact BK210.out) hb); have n1_ := Aside0.mk (below_step (by repeat (first | (with_reducible first | exact HB.out | apply below_alloc | apply pw_below_drewN | apply below_drew1 | refine below_set ?_ GE210.out) | exact HB.out)) hb); clear BK210; clear HB; have BK210 := n0_; have HB := n1_; clear n0_ n1_; (try clear hb); (try clear hb2); (try clear hk); (try clear hi)) | (go_at_call 28; (with_reducible refine (bilgelaw40_sure.calls kj4  t231 _ A43.out).mono ?_); rintro e w46 ⟨rfl, hb⟩; have n0_ := Aside0.mk (blk_below (g := gb210) (o := .cells #[.int .u8 a2_0, .int .u8 a2_1] 54 (0, 0)) (by (with_reducible repeat (first | refine blk_drewN ?_ _ | refine blk_drew ?_ | refine blk_alloc ?_ _)); exact BK210.out) hb); have n1_ := Aside0.mk (below_step (by repeat (first | (with_reducible first | exact HB.out | apply below_alloc | apply pw_below_drewN | apply below_drew1 | refine below_set ?_ GE210.out) | exact HB.out)) hb); clear BK210; clear HB; have BK210 := n0_; have HB := n1_; clear n0_ n1_; (try clear hb); (try clear hb2); (try clear hk); (try clear hi))); try go_wp2_with (first | (go_at_call 31; (with_reducible refine (value_Get.calls kj4 _ _ l1 (Int.tmod (wrap64 (a2_1)) 4) (decide (a2_0 ≥ 128)) t223 t224 _ ?side1 ?side2 A30.out).mono ?_); (case side1 => repeat (first | exact (Kd.C_below HR1.out HB.out) | (with_reducible refine Kd.C_alloc ?_ _) | (with_reducible refine Kd.C_drewN ?_ _) | (with_reducible refine Kd.C_drew ?_))); (case side2 => exact HC1.out); rintro e w45 ⟨rfl, hb⟩; have n0_ := Aside0.mk (blk_below (g := gb210) (o := .cells #[.int .u8 a2_0, .int .u8 a2_1] 54 (0, 0)) (by (with_reducible repeat (first | refine blk_drewN ?_ _ | refine blk_drew ?_ | refine blk_alloc ?_ _)); exact BK210.out) hb); have n1_ := Aside0.mk (below_step (by repeat (first | (with_reducible first | exact HB.out | apply below_alloc | apply pw_below_drewN | apply below_drew1 | refine below_set ?_ GE210.out) | exact HB.out)) hb); clear BK210; clear HB; have BK210 := n0_; have HB := n1_; clear n0_ n1_; (try clear hb); (try clear hb2); (try clear hk); (try clear hi)) | (go_at_call 28; (with_reducible refine (bilgelaw40_sure.calls kj4  t231 _ A43.out).mono ?_); rintro e w46 ⟨rfl, hb⟩; have n0_ := Aside0.mk (blk_below (g := gb210) (o := .cells #[.int .u8 a2_0, .int .u8 a2_1] 54 (0, 0)) (by (with_reducible repeat (first | refine blk_drewN ?_ _ | refine blk_drew ?_ | refine blk_alloc ?_ _)); exact BK210.out) hb); have n1_ := Aside0.mk (below_step (by repeat (first | (with_reducible first | exact HB.out | apply below_alloc | apply pw_below_drewN | apply below_drew1 | refine below_set ?_ GE210.out) | exact HB.out)) hb); clear BK210; clear HB; have BK210 := n0_; have HB := n1_; clear n0_ n1_; (try clear hb); (try clear hb2); (try clear hk); (try clear hi))))
     go_ret
     exact ⟨by first | rfl | (simp [errW_none, errW_some] <;> rfl) | (simp [*, errW_none, errW_some] <;> rfl), by repeat (first | (with_reducible first | exact HB.out | apply below_alloc | apply pw_below_drewN | apply below_drew1 | refine below_set ?_ GE210.out) | exact HB.out)⟩
    ·rw [if_neg c42] at H
     have c42b0 : decide ((l1.length : Int) < 1) = false := decide_eq_false c42
     have c42b1 : decide (l1.length < 1) = false := decide_eq_false (by omega)
     clear c42
     by_cases c47 : (l1.length : Int) > 4
     ·rw [if_pos c47] at H
      have c47b0 : decide (4 < (l1.length : Int)) = true := decide_eq_true c47
      have c47b1 : decide (4 < l1.length) = true := decide_eq_true (by omega)
      clear c47
      replace H := Option.bind_eq_some_iff.mp H
      obtain ⟨t232, A480, H⟩ := H
      replace H : (some t232) = some r := H
      have A48 := Aside0.mk A480
      clear A480
      obtain rfl := Option.some.inj H
      have hcz49_0 : wc.cell? ⟨gb210, 0, none⟩ = some (.int .u8 a2_0) := (blk_cell BK210.out 0).trans rfl
      have hcz49_1 : wc.cell? ⟨gb210, 1, none⟩ = some (.int .u8 a2_1) := (blk_cell BK210.out 1).trans rfl
      have hfz49_0 := blk_frozen BK210.out 0
      have hfz49_1 := blk_frozen BK210.out 1
      go_wp2_with (first | (go_at_call 31; (with_reducible refine (value_Get.calls kj4 _ _ l1 (Int.tmod (wrap64 (a2_1)) 4) (decide (a2_0 ≥ 128)) t223 t224 _ ?side1 ?side2 A30.out).mono ?_); (case side1 => repeat (first | exact (Kd.C_below HR1.out HB.out) | (with_reducible refine Kd.C_alloc ?_ _) | (with_reducible refine Kd.C_drewN ?_ _) | (with_reducible refine Kd.C_drew ?_))); (case side2 => exact HC1.out); rintro e w50 ⟨rfl, hb⟩; have n0_ := Aside0.mk (blk_below (g := gb210) (o := .cells #[.int .u8 a2_0, .int .u8 a2_1] 54 (0, 0)) (by (with_reducible repeat (first | refine blk_drewN ?_ _ | refine blk_drew ?_ | refine blk_alloc ?_ _)); exact BK210.out) hb); have n1_ := Aside0.mk (below_step (by repeat (first | (with_reducible first | exact HB.out | apply below_alloc | apply pw_below_drewN | apply below_drew1 | refine below_set ?_ GE210.out) | exact HB.out)) hb); clear BK210; clear HB; have BK210 := n0_; have HB := n1_; clear n0_ n1_; (try clear hb); (try clear hb2); (try clear hk); (try clear hi)) | (go_at_call 28; (with_reducible refine (bilgelaw40_sure.calls kj4  t232 _ A48.out).mono ?_); rintro e w51 ⟨rfl, hb⟩; have n0_ := Aside0.mk (blk_below (g := gb210) (o := .cells #[.int .u8 a2_0, .int .u8 a2_1] 54 (0, 0)) (by (with_reducible repeat (first | refine blk_drewN ?_ _ | refine blk_drew ?_ | refine blk_alloc ?_ _)); exact BK210.out) hb); have n1_ := Aside0.mk (below_step (by repeat (first | (with_reducible first | exact HB.out | apply below_alloc | apply pw_below_drewN | apply below_drew1 | refine below_set ?_ GE210.out) | exact HB.out)) hb); clear BK210; clear HB; have BK210 := n0_; have HB := n1_; clear n0_ n1_; (try clear hb); (try clear hb2); (try clear hk); (try clear hi)))
      all_goals try (first | exact absurd (by assumption) (of_decide_eq_false c42b0) | exact absurd (by assumption) (of_decide_eq_false c42b1) | exact absurd (of_decide_eq_true c47b0) (by assumption) | exact absurd (of_decide_eq_true c47b1) (by assumption))
      repeat (go_quiet (first | (go_at_call 31; (with_reducible refine (value_Get.calls kj4 _ _ l1 (Int.tmod (wrap64 (a2_1)) 4) (decide (a2_0 ≥ 128)) t223 t224 _ ?side1 ?side2 A30.out).mono ?_); (case side1 => repeat (first | exact (Kd.C_below HR1.out HB.out) | (with_reducible refine Kd.C_alloc ?_ _) | (with_reducible refine Kd.C_drewN ?_ _) | (with_reducible refine Kd.C_drew ?_))); (case side2 => exact HC1.out); rintro e w50 ⟨rfl, hb⟩; have n0_ := Aside0.mk (blk_below (g := gb210) (o := .cells #[.int .u8 a2_0, .int .u8 a2_1] 54 (0, 0)) (by (with_reducible repeat (first | refine blk_drewN ?_ _ | refine blk_drew ?_ | refine blk_alloc ?_ _)); exact BK210.out) hb); have n1_ := Aside0.mk (below_step (by repeat (first | (with_reducible first | exact HB.out | apply below_alloc | apply pw_below_drewN | apply below_drew1 | refine below_set ?_ GE210.out) | exact HB.out)) hb); clear BK210; clear HB; have BK210 := n0_; have HB := n1_; clear n0_ n1_; (try clear hb); (try clear hb2); (try clear hk); (try clear hi)) | (go_at_call 28; (with_reducible refine (bilgelaw40_sure.calls kj4  t232 _ A48.out).mono ?_); rintro e w51 ⟨rfl, hb⟩; have n0_ := Aside0.mk (blk_below (g := gb210) (o := .cells #[.int .u8 a2_0, .int .u8 a2_1] 54 (0, 0)) (by (with_reducible repeat (first | refine blk_drewN ?_ _ | refine blk_drew ?_ | refine blk_alloc ?_ _)); exact BK210.out) hb); have n1_ := Aside0.mk (below_step (by repeat (first | (with_reducible first | exact HB.out | apply below_alloc | apply pw_below_drewN | apply below_drew1 | refine below_set ?_ GE210.out) | exact HB.out)) hb); clear BK210; clear HB; have BK210 := n0_; have HB := n1_; clear n0_ n1_; (try clear hb); (try clear hb2); (try clear hk); (try clear hi))); try go_wp2_with (first | (go_at_call 31; (with_reducible refine (value_Get.calls kj4 _ _ l1 (Int.tmod (wrap64 (a2_1)) 4) (decide (a2_0 ≥ 128)) t223 t224 _ ?side1 ?side2 A30.out).mono ?_); (case side1 => repeat (first | exact (Kd.C_below HR1.out HB.out) | (with_reducible refine Kd.C_alloc ?_ _) | (with_reducible refine Kd.C_drewN ?_ _) | (with_reducible refine Kd.C_drew ?_))); (case side2 => exact HC1.out); rintro e w50 ⟨rfl, hb⟩; have n0_ := Aside0.mk (blk_below (g := gb210) (o := .cells #[.int .u8 a2_0, .int .u8 a2_1] 54 (0, 0)) (by (with_reducible repeat (first | refine blk_drewN ?_ _ | refine blk_drew ?_ | refine blk_alloc ?_ _)); exact BK210.out) hb); have n1_ := Aside0.mk (below_step (by repeat (first | (with_reducible first | exact HB.out | apply below_alloc | apply pw_below_drewN | apply below_drew1 | refine below_set ?_ GE210.out) | exact HB.out)) hb); clear BK210; clear HB; have BK210 := n0_; have HB := n1_; clear n0_ n1_; (try clear hb); (try clear hb2); (try clear hk); (try clear hi)) | (go_at_call 28; (with_reducible refine (bilgelaw40_sure.calls kj4  t232 _ A48.out).mono ?_); rintro e w51 ⟨rfl, hb⟩; have n0_ := Aside0.mk (blk_below (g := gb210) (o := .cells #[.int .u8 a2_0, .int .u8 a2_1] 54 (0, 0)) (by (with_reducible repeat (first | refine blk_drewN ?_ _ | refine blk_drew ?_ | refine blk_alloc ?_ _)); exact BK210.out) hb); have n1_ := Aside0.mk (below_step (by repeat (first | (with_reducible first | exact HB.out | apply below_alloc | apply pw_below_drewN | apply below_drew1 | refine below_set ?_ GE210.out) | exact HB.out)) hb); clear BK210; clear HB; have BK210 := n0_; have HB := n1_; clear n0_ n1_; (try clear hb); (try clear hb2); (try clear hk); (try clear hi))))
      go_ret
      exact ⟨by first | rfl | (simp [errW_none, errW_some] <;> rfl) | (simp [*, errW_none, errW_some] <;> rfl), by repeat (first | (with_reducible first | exact HB.out | apply below_alloc | apply pw_below_drewN | apply below_drew1 | refine below_set ?_ GE210.out) | exact HB.out)⟩
     ·rw [if_neg c47] at H
      exact absurd H (by simp)

/-- THE ONE PURE STATEMENT of bilgelaw40_ValueBack: yours. -/
def bilgelaw40_ValueBack.Pure : Prop := ∀ (x0 : Int) (x1 : List Int) (x2 : S54), (Lit.int .i64 x0).wf = true → (x1.length ≤ maxLen ∧ x1.length * 2 ≤ 140737488351232 ∧ ∀ y0 ∈ x1, (Lit.int .u16 y0).wf = true) → ((Lit.int .u8 x2.f0).wf = true ∧ (Lit.int .u8 x2.f1).wf = true) → ∃ k, bilgelaw40_ValueBack.f k x0 x1 x2.f0 x2.f1 = some true

end Go.Proofs.Ytnaedmakkefdfaa.P
