import Derived.Test.YtedfbemifigoeaaX
import Derived.Test.YtedfbemifigoeaaAr
import Derived.Test.YtedfbemifigoeaaAj
import Derived.Test.YtedfbemifigoeaaAb
import Derived.Test.YtedfbemifigoeaaPx1
import Derived.Test.YtedfbemifigoeaaPx2
import Derived.Test.YtedfbemifigoeaaPx3
import Derived.Test.YtedfbemifigoeaaPx4
import Derived.Test.YtedfbemifigoeaaPx5
import Derived.Test.YtedfbemifigoeaaPx6
import Derived.Test.YtedfbemifigoeaaLSame
import Derived.Test.YtedfbemifigoeaaLWord
import Derived.Test.YtedfbemifigoeaaLBits
namespace Go.Proofs.Ytedfbemifigoeaa.P
open Go.RowKit Go.Proofs.YtedfbemifigoeaaW.PrintWords Go.Proofs.YtedfbemifigoeaaW.PrintLast Go.Proofs.YtedfbemifigoeaaW.PrintMore
attribute [local go_sem] max2_int min2_int max_two min_two max_three min_three max_four min_four   -- for this text's walks alone
set_option linter.unusedVariables false
set_option linter.unusedSimpArgs false

open Go.Proofs.Ytedfbemifigoeaa.L

theorem As.bytesE {w : World} {A B : Option Addr} {c d : Nat} {l m : List Int} (h1 : (Kd.int .u8).C w A l.length l) (k1 : l.length ≤ c) (h2 : (Kd.int .u8).C w B m.length m) (k2 : m.length ≤ d) (hs : l.length ≤ 1000000) {y : Bool} (he : decide (l = m) = y) : Calls Try.prog 18 #[.slice A l.length c, .slice B m.length d] w fun e w' => e = .returned (.bool y) ∧ Below w.heap.size w w' :=
  (bilgeref01_Bytes.calls (l.length + 1) A c l B d m y w h1 k1 h2 k2 ((bytes_eq (by omega) (by omega)).trans (congrArg some he))).mono (fun e w' hh => ⟨hh.1, hh.2.below⟩)
set_option maxHeartbeats 4000000 in
set_option maxRecDepth 100000 in
theorem As.fews {w : World} {cs : Array Value} {x : S25} (h : As.V w cs x) {b : Bool} (he : decide (x.f8.length ≤ 2100 ∧ x.f9.length ≤ 300) = b) : Calls Try.prog 10 #[.agg cs] w fun e w' => e = .returned (.bool b) ∧ Below w.heap.size w w' := by
  obtain ⟨A8, c8, A9, c9, rfl, k8, g8, k9, g9⟩ := As.open h
  have K8 := Aside0.mk k8
  have G8 := Aside0.mk g8
  have K9 := Aside0.mk k9
  have G9 := Aside0.mk g9
  clear h k8 g8 k9 g9
  have hu := Try.underlying25
  have HB := Aside0.mk (Below.refl w.heap.size w)
  by_cases q8 : x.f8.length ≤ 2100
  · have d8 : decide (x.f8.length ≤ 2100) = true := decide_eq_true q8
    have d8i : decide ((x.f8.length : Int) ≤ 2100) = true := decide_eq_true (by omega)
    obtain rfl : decide (x.f9.length ≤ 300) = b := by rw [← he]; simp [q8]
    clear he q8
    go_enter Try.func10, Try.ntmps10
    go_wp2_with (first
      | ((with_reducible refine gate_dst (N := 1) rfl ?_); refine box_event ?hg (N := 1) ?hd (cs := #[.int .i64 x.f0, .int .i64 x.f1, .int .i64 x.f2, .int .i64 x.f3, .int .i64 x.f4, .int .i64 x.f5, .int .i64 x.f6, .int .i64 x.f7, .slice A8 x.f8.length c8, .slice A9 x.f9.length c9]) (t := 25) ?hr ?_; (case hd => rfl); (case hg => rfl); (case hr => first | (go_simp; done) | (go_simp; rfl)); intro g1 hg w1 hbox hb; have GEg1 := Aside0.mk ((by rw [hg]; exact HB.out.size) : w.heap.size ≤ g1); have BKg1 := Aside0.mk hbox; clear hbox hg; have n0_ := Aside0.mk (below_step HB.out hb); clear HB; have HB := n0_; clear n0_; (try clear cg1); have cg1 := fun i => blk_cell BKg1.out i; clear hb))
    go_ret
    exact ⟨congrArg (fun b => Ending.returned (Value.bool b)) (show decide ((x.f9.length : Int) ≤ 300) = decide (x.f9.length ≤ 300) from decide_eq_decide.2 (by omega)), HB.out⟩
  · have d8 : decide (x.f8.length ≤ 2100) = false := decide_eq_false q8
    have d8i : decide ((x.f8.length : Int) ≤ 2100) = false := decide_eq_false (by omega)
    obtain rfl : false = b := by rw [← he]; simp [q8]
    clear he q8
    go_enter Try.func10, Try.ntmps10
    go_wp2_with (first
      | ((with_reducible refine gate_dst (N := 1) rfl ?_); refine box_event ?hg (N := 1) ?hd (cs := #[.int .i64 x.f0, .int .i64 x.f1, .int .i64 x.f2, .int .i64 x.f3, .int .i64 x.f4, .int .i64 x.f5, .int .i64 x.f6, .int .i64 x.f7, .slice A8 x.f8.length c8, .slice A9 x.f9.length c9]) (t := 25) ?hr ?_; (case hd => rfl); (case hg => rfl); (case hr => first | (go_simp; done) | (go_simp; rfl)); intro g1 hg w1 hbox hb; have GEg1 := Aside0.mk ((by rw [hg]; exact HB.out.size) : w.heap.size ≤ g1); have BKg1 := Aside0.mk hbox; clear hbox hg; have n0_ := Aside0.mk (below_step HB.out hb); clear HB; have HB := n0_; clear n0_; (try clear cg1); have cg1 := fun i => blk_cell BKg1.out i; clear hb))
    go_ret
    exact ⟨rfl, HB.out⟩
abbrev As.A3 : S25 := ⟨3, 107, 3, 0, 0, 0, 0, 0, [], []⟩
theorem As.s1 : As.parse [3, 0, 107, 0, 3] = (As.A3, 0) := by kernel_rfl
theorem As.s2 : As.parse [3, 0, 107, 0, 126] = (z25, 3) := by kernel_rfl
theorem As.s3 : As.parse [7] = (z25, 1) := by kernel_rfl
theorem As.s4 : As.parse [] = (z25, 12) := by kernel_rfl
theorem As.s5 : As.right As.A3 = true := by kernel_rfl
theorem As.s6 : As.print As.A3 = [3, 0, 107, 0, 3] := by kernel_rfl
theorem As.s7 : As.known 23 = true := by kernel_rfl
theorem As.s8 : As.known 7 = false := by kernel_rfl
theorem As.b_of {w w1 : World} (h : w.grownBy w1 none) : Below w.heap.size w w1 := ⟨h.os, h.tape, h.output, h.size, fun k hk => h.block k hk (by simp)⟩
theorem As.sp1 {A : Option Addr} {c : Nat} {w : World} (hr : (Kd.int .u8).C w A 5 [3, 0, 107, 0, 3]) (hc : 5 ≤ c) : Calls Try.prog 21 #[.slice A 5 c] w fun e w' => ∃ cs', e = .returned (.tuple #[.agg cs', .int .i64 0]) ∧ As.V w' cs' (As.A3) ∧ Below w.heap.size w w' := As.parses (l := [3, 0, 107, 0, 3]) hr hc (by intro x hx; simp at hx; unfold U8; omega) (by decide) As.s1
theorem As.sp2 {A : Option Addr} {c : Nat} {w : World} (hr : (Kd.int .u8).C w A 5 [3, 0, 107, 0, 126]) (hc : 5 ≤ c) : Calls Try.prog 21 #[.slice A 5 c] w fun e w' => ∃ cs', e = .returned (.tuple #[.agg cs', .int .i64 3]) ∧ As.V w' cs' (z25) ∧ Below w.heap.size w w' := As.parses (l := [3, 0, 107, 0, 126]) hr hc (by intro x hx; simp at hx; unfold U8; omega) (by decide) As.s2
theorem As.sp3 {A : Option Addr} {c : Nat} {w : World} (hr : (Kd.int .u8).C w A 1 [7]) (hc : 1 ≤ c) : Calls Try.prog 21 #[.slice A 1 c] w fun e w' => ∃ cs', e = .returned (.tuple #[.agg cs', .int .i64 1]) ∧ As.V w' cs' (z25) ∧ Below w.heap.size w w' := As.parses (l := [7]) hr hc (by intro x hx; simp at hx; unfold U8; omega) (by decide) As.s3
theorem As.sp4 {w : World} : Calls Try.prog 21 #[.slice none 0 0] w fun e w' => ∃ cs', e = .returned (.tuple #[.agg cs', .int .i64 12]) ∧ As.V w' cs' z25 ∧ Below w.heap.size w w' := As.parses (l := []) (Kd.C_nil _ _) (Nat.le_refl _) (by intro x hx; cases hx) (by decide) As.s4
set_option maxHeartbeats 16000000 in
set_option maxRecDepth 100000 in
theorem As.sure {w : World} : Calls Try.prog 11 #[] w fun e w' => e = .returned (.bool true) ∧ Below w.heap.size w w' := by
  have hu := Try.underlying25
  have hz := As.zero
  have HB := Aside0.mk (Below.refl w.heap.size w)
  go_enter Try.func11, Try.ntmps11
  go_wp2_with (first
    | ((with_reducible refine gate_dst (N := 12) rfl ?_); refine Kd.R_lit (Kd.int .u8) (w0 := w) w.heap.size 5 ?hg (N := 12) ?hd (xs := ([3, 0, 107, 0, 3] : List Int)) (inner := [.int .u8 3, .int .u8 0, .int .u8 107, .int .u8 0, .int .u8 3]) (ok := fun _ => True) (okp := fun _ => False) ?hr ?hp (fun _ hk => hk.elim) trivial HB.out HB.out.size (by simp) ?_; (case hd => rfl); (case hg => rfl); (case hr => first | (go_simp; done) | (go_simp; rfl)); (case hp => exact (Reps.one (show Kd.M (Kd.int .u8) _ _ _ 3 [.int .u8 3] from rfl) (Reps.one (show Kd.M (Kd.int .u8) _ _ _ 0 [.int .u8 0] from rfl) (Reps.one (show Kd.M (Kd.int .u8) _ _ _ 107 [.int .u8 107] from rfl) (Reps.one (show Kd.M (Kd.int .u8) _ _ _ 0 [.int .u8 0] from rfl) (Reps.one (show Kd.M (Kd.int .u8) _ _ _ 3 [.int .u8 3] from rfl) (Reps.none _ _))))))); intro vn w1 ho hb0 hgr _; have hb := As.b_of hgr; obtain ⟨An, cn, en⟩ := Kd.R_slice ho; subst en; have n0_ := Aside0.mk (below_step HB.out hb); clear HB; have HB := n0_; clear n0_; have HN := Aside0.mk (show (Kd.int .u8).R 5 w1 w.heap.size (fun _ => True) (.slice An 5 cn) [3, 0, 107, 0, 3] from ho); clear ho hb0 hgr hb; skip)
    | (go_at_call 21; (with_reducible refine (As.sp1 (Kd.R_reads' HN.out).2.2 (Kd.R_reads' HN.out).2.1).mono ?_); rintro r w2 ⟨cs1, rfl, hV, hb⟩; obtain ⟨A8, c8, A9, c9, ecs, -, -, -, -⟩ := As.open hV; obtain rfl : cs1 = #[.int .i64 3, .int .i64 107, .int .i64 3, .int .i64 0, .int .i64 0, .int .i64 0, .int .i64 0, .int .i64 0, .slice A8 0 c8, .slice A9 0 c9] := ecs; have n0_ := Aside0.mk (below_step HB.out hb); clear HB; have HB := n0_; clear n0_; have HA := Aside0.mk hV; clear hV hb; (try clear HN))
    | ((with_reducible refine gate_dst (N := 1) rfl ?_); refine box_event ?hg (N := 1) ?hd (cs := As.Z) (t := 25) ?hr ?_; (case hd => rfl); (case hg => rfl); (case hr => first | (go_simp; done) | (go_simp; rfl)); intro ga hg w3 hbox hb; have GX := Aside0.mk (Nat.le_of_eq hg.symm); have HX := Aside0.mk hb; have BKga := Aside0.mk hbox; clear hg hbox hb)
    | ((with_reducible refine gate_store rfl ?_); refine As.store_row rfl 25 _ _ rfl ga #[.int .i64 3, .int .i64 107, .int .i64 3, .int .i64 0, .int .i64 0, .int .i64 0, .int .i64 0, .int .i64 0, .slice A8 0 c8, .slice A9 0 c9] rfl rfl 25 _ BKga.out (by rw [As.V_size HA.out]; exact As.size) (by rw [As.V_size HA.out]; rfl) (As.V_one HA.out) ?_; intro w4 hgb hgr; have hb := HX.out.grown hgr HX.out.size (fun k hk => by cases hk; exact GX.out); have n0_ := Aside0.mk (below_step HB.out hb); have n1_ := Aside0.mk (As.V_below HA.out hb); clear HB HA; have HB := n0_; have HA := n1_; clear n0_ n1_; clear BKga GX HX hb hgr; have BKga := Aside0.mk hgb; clear hgb; skip)
    | ((with_reducible refine gate_dst (N := 17) rfl ?_); refine wpList_load_row rfl 25 _ rfl ga rfl 25 _ (0, 0) _ BKga.out hu rfl (by rw [As.V_size HA.out]; exact As.size) ?_)
    | (go_at_call 12; (with_reducible refine (As.prints HA.out ⟨by decide, by decide⟩ (by decide) As.s5).mono ?_); rintro r w5 ⟨vx, rfl, ho, hb⟩; rw [As.s6] at ho; have HPX := Aside0.mk (Kd.R_lower ho HB.out.size); clear ho; have n0_ := Aside0.mk (below_step HB.out hb); have n1_ := Aside0.mk (As.V_below HA.out hb); have n2_ := Aside0.mk (blk_below BKga.out hb); clear HB HA BKga; have HB := n0_; have HA := n1_; have BKga := n2_; clear n0_ n1_ n2_; clear hb; obtain ⟨Ax, cx, ex⟩ := Kd.R_slice HPX.out; subst ex)
    | ((with_reducible refine gate_dst (N := 22) rfl ?_); refine Kd.R_lit (Kd.int .u8) (w0 := w) w.heap.size 5 ?hg (N := 22) ?hd (xs := ([3, 0, 107, 0, 126] : List Int)) (inner := [.int .u8 3, .int .u8 0, .int .u8 107, .int .u8 0, .int .u8 126]) (ok := fun _ => True) (okp := fun _ => False) ?hr ?hp (fun _ hk => hk.elim) trivial HB.out HB.out.size (by simp) ?_; (case hd => rfl); (case hg => rfl); (case hr => first | (go_simp; done) | (go_simp; rfl)); (case hp => exact (Reps.one (show Kd.M (Kd.int .u8) _ _ _ 3 [.int .u8 3] from rfl) (Reps.one (show Kd.M (Kd.int .u8) _ _ _ 0 [.int .u8 0] from rfl) (Reps.one (show Kd.M (Kd.int .u8) _ _ _ 107 [.int .u8 107] from rfl) (Reps.one (show Kd.M (Kd.int .u8) _ _ _ 0 [.int .u8 0] from rfl) (Reps.one (show Kd.M (Kd.int .u8) _ _ _ 126 [.int .u8 126] from rfl) (Reps.none _ _))))))); intro vn w6 ho hb0 hgr _; have hb := As.b_of hgr; obtain ⟨An, cn, en⟩ := Kd.R_slice ho; subst en; have n0_ := Aside0.mk (below_step HB.out hb); have n1_ := Aside0.mk (As.V_below HA.out hb); have n2_ := Aside0.mk (blk_below BKga.out hb); have n3_ := Aside0.mk (Kd.R_below HPX.out hb); clear HB HA BKga HPX; have HB := n0_; have HA := n1_; have BKga := n2_; have HPX := n3_; clear n0_ n1_ n2_ n3_; have HN := Aside0.mk (show (Kd.int .u8).R 5 w6 w.heap.size (fun _ => True) (.slice An 5 cn) [3, 0, 107, 0, 126] from ho); clear ho hb0 hgr hb; skip))
  go_wp2_with (first
    | (go_at_call 21; (with_reducible refine (As.sp2 (Kd.R_reads' HN.out).2.2 (Kd.R_reads' HN.out).2.1).mono ?_); rintro r w7 ⟨cs2, rfl, hV, hb⟩; have n0_ := Aside0.mk (below_step HB.out hb); have n1_ := Aside0.mk (As.V_below HA.out hb); have n2_ := Aside0.mk (blk_below BKga.out hb); have n3_ := Aside0.mk (Kd.R_below HPX.out hb); clear HB HA BKga HPX; have HB := n0_; have HA := n1_; have BKga := n2_; have HPX := n3_; clear n0_ n1_ n2_ n3_; have HZ := Aside0.mk hV; clear hV hb; (try clear HN))
    | ((with_reducible refine gate_dst (N := 5) rfl ?_); refine box_event ?hg (N := 5) ?hd (cs := As.Z) (t := 25) ?hr ?_; (case hd => rfl); (case hg => rfl); (case hr => first | (go_simp; done) | (go_simp; rfl)); intro gb hg w8 hbox hb; have GX := Aside0.mk (Nat.le_of_eq hg.symm); have HX := Aside0.mk hb; have BKgb := Aside0.mk hbox; clear hg hbox hb)
    | ((with_reducible refine gate_store rfl ?_); refine As.store_row rfl 25 _ _ rfl gb cs2 rfl rfl 25 _ BKgb.out (by rw [As.V_size HZ.out]; exact As.size) (by rw [As.V_size HZ.out]; rfl) (As.V_one HZ.out) ?_; intro w9 hgb hgr; have hb := HX.out.grown hgr HX.out.size (fun k hk => by cases hk; exact GX.out); have n0_ := Aside0.mk (below_step HB.out hb); have n1_ := Aside0.mk (As.V_below HA.out hb); have n2_ := Aside0.mk (blk_below BKga.out hb); have n3_ := Aside0.mk (Kd.R_below HPX.out hb); have n4_ := Aside0.mk (As.V_below HZ.out hb); clear HB HA BKga HPX HZ; have HB := n0_; have HA := n1_; have BKga := n2_; have HPX := n3_; have HZ := n4_; clear n0_ n1_ n2_ n3_ n4_; clear BKgb GX HX hb hgr; have BKgb := Aside0.mk hgb; clear hgb; clear HZ BKgb)
    | ((with_reducible refine gate_dst (N := 27) rfl ?_); refine Kd.R_lit (Kd.int .u8) (w0 := w) w.heap.size 5 ?hg (N := 27) ?hd (xs := ([7] : List Int)) (inner := [.int .u8 7]) (ok := fun _ => True) (okp := fun _ => False) ?hr ?hp (fun _ hk => hk.elim) trivial HB.out HB.out.size (by simp) ?_; (case hd => rfl); (case hg => rfl); (case hr => first | (go_simp; done) | (go_simp; rfl)); (case hp => exact (Reps.one (show Kd.M (Kd.int .u8) _ _ _ 7 [.int .u8 7] from rfl) (Reps.none _ _))); intro vn w10 ho hb0 hgr _; have hb := As.b_of hgr; obtain ⟨An, cn, en⟩ := Kd.R_slice ho; subst en; have n0_ := Aside0.mk (below_step HB.out hb); have n1_ := Aside0.mk (As.V_below HA.out hb); have n2_ := Aside0.mk (blk_below BKga.out hb); have n3_ := Aside0.mk (Kd.R_below HPX.out hb); clear HB HA BKga HPX; have HB := n0_; have HA := n1_; have BKga := n2_; have HPX := n3_; clear n0_ n1_ n2_ n3_; have HN := Aside0.mk (show (Kd.int .u8).R 5 w10 w.heap.size (fun _ => True) (.slice An 1 cn) [7] from ho); clear ho hb0 hgr hb; skip))
  go_wp2_with (first
    | (go_at_call 21; (with_reducible refine (As.sp3 (Kd.R_reads' HN.out).2.2 (Kd.R_reads' HN.out).2.1).mono ?_); rintro r w7 ⟨cs3, rfl, hV, hb⟩; have n0_ := Aside0.mk (below_step HB.out hb); have n1_ := Aside0.mk (As.V_below HA.out hb); have n2_ := Aside0.mk (blk_below BKga.out hb); have n3_ := Aside0.mk (Kd.R_below HPX.out hb); clear HB HA BKga HPX; have HB := n0_; have HA := n1_; have BKga := n2_; have HPX := n3_; clear n0_ n1_ n2_ n3_; have HZ := Aside0.mk hV; clear hV hb; (try clear HN))
    | ((with_reducible refine gate_dst (N := 7) rfl ?_); refine box_event ?hg (N := 7) ?hd (cs := As.Z) (t := 25) ?hr ?_; (case hd => rfl); (case hg => rfl); (case hr => first | (go_simp; done) | (go_simp; rfl)); intro gc hg w8 hbox hb; have GX := Aside0.mk (Nat.le_of_eq hg.symm); have HX := Aside0.mk hb; have BKgc := Aside0.mk hbox; clear hg hbox hb)
    | ((with_reducible refine gate_store rfl ?_); refine As.store_row rfl 25 _ _ rfl gc cs3 rfl rfl 25 _ BKgc.out (by rw [As.V_size HZ.out]; exact As.size) (by rw [As.V_size HZ.out]; rfl) (As.V_one HZ.out) ?_; intro w9 hgb hgr; have hb := HX.out.grown hgr HX.out.size (fun k hk => by cases hk; exact GX.out); have n0_ := Aside0.mk (below_step HB.out hb); have n1_ := Aside0.mk (As.V_below HA.out hb); have n2_ := Aside0.mk (blk_below BKga.out hb); have n3_ := Aside0.mk (Kd.R_below HPX.out hb); have n4_ := Aside0.mk (As.V_below HZ.out hb); clear HB HA BKga HPX HZ; have HB := n0_; have HA := n1_; have BKga := n2_; have HPX := n3_; have HZ := n4_; clear n0_ n1_ n2_ n3_ n4_; clear BKgc GX HX hb hgr; have BKgc := Aside0.mk hgb; clear hgb; clear HZ BKgc))
  go_wp2_with (first
    | (go_at_call 21; (with_reducible refine (As.sp4).mono ?_); rintro r w7 ⟨cs4, rfl, hV, hb⟩; have n0_ := Aside0.mk (below_step HB.out hb); have n1_ := Aside0.mk (As.V_below HA.out hb); have n2_ := Aside0.mk (blk_below BKga.out hb); have n3_ := Aside0.mk (Kd.R_below HPX.out hb); clear HB HA BKga HPX; have HB := n0_; have HA := n1_; have BKga := n2_; have HPX := n3_; clear n0_ n1_ n2_ n3_; have HZ := Aside0.mk hV; clear hV hb; (try clear HN))
    | ((with_reducible refine gate_dst (N := 9) rfl ?_); refine box_event ?hg (N := 9) ?hd (cs := As.Z) (t := 25) ?hr ?_; (case hd => rfl); (case hg => rfl); (case hr => first | (go_simp; done) | (go_simp; rfl)); intro gd hg w8 hbox hb; have GX := Aside0.mk (Nat.le_of_eq hg.symm); have HX := Aside0.mk hb; have BKgd := Aside0.mk hbox; clear hg hbox hb)
    | ((with_reducible refine gate_store rfl ?_); refine As.store_row rfl 25 _ _ rfl gd cs4 rfl rfl 25 _ BKgd.out (by rw [As.V_size HZ.out]; exact As.size) (by rw [As.V_size HZ.out]; rfl) (As.V_one HZ.out) ?_; intro w9 hgb hgr; have hb := HX.out.grown hgr HX.out.size (fun k hk => by cases hk; exact GX.out); have n0_ := Aside0.mk (below_step HB.out hb); have n1_ := Aside0.mk (As.V_below HA.out hb); have n2_ := Aside0.mk (blk_below BKga.out hb); have n3_ := Aside0.mk (Kd.R_below HPX.out hb); have n4_ := Aside0.mk (As.V_below HZ.out hb); clear HB HA BKga HPX HZ; have HB := n0_; have HA := n1_; have BKga := n2_; have HPX := n3_; have HZ := n4_; clear n0_ n1_ n2_ n3_ n4_; clear BKgd GX HX hb hgr; have BKgd := Aside0.mk hgb; clear hgb; clear HZ BKgd; (try clear cga); have cga := fun i => blk_cell BKga.out i)
    | ((with_reducible refine gate_dst (N := 58) rfl ?_); refine gate_guard (by rfl) ?_; dsimp only; refine Kd.R_lit (Kd.int .u8) (w0 := w) w.heap.size 5 ?hg (N := 58) ?hd (xs := ([3, 0, 107, 0, 3] : List Int)) (inner := [.int .u8 3, .int .u8 0, .int .u8 107, .int .u8 0, .int .u8 3]) (ok := fun _ => True) (okp := fun _ => False) ?hr ?hp (fun _ hk => hk.elim) trivial HB.out HB.out.size (by simp) ?_; (case hd => rfl); (case hg => rfl); (case hr => first | (go_simp; done) | (go_simp; rfl)); (case hp => exact (Reps.one (show Kd.M (Kd.int .u8) _ _ _ 3 [.int .u8 3] from rfl) (Reps.one (show Kd.M (Kd.int .u8) _ _ _ 0 [.int .u8 0] from rfl) (Reps.one (show Kd.M (Kd.int .u8) _ _ _ 107 [.int .u8 107] from rfl) (Reps.one (show Kd.M (Kd.int .u8) _ _ _ 0 [.int .u8 0] from rfl) (Reps.one (show Kd.M (Kd.int .u8) _ _ _ 3 [.int .u8 3] from rfl) (Reps.none _ _))))))); intro vn w10 ho hb0 hgr _; have hb := As.b_of hgr; obtain ⟨An, cn, en⟩ := Kd.R_slice ho; subst en; have n0_ := Aside0.mk (below_step HB.out hb); have n1_ := Aside0.mk (As.V_below HA.out hb); have n2_ := Aside0.mk (blk_below BKga.out hb); have n3_ := Aside0.mk (Kd.R_below HPX.out hb); clear HB HA BKga HPX; have HB := n0_; have HA := n1_; have BKga := n2_; have HPX := n3_; clear n0_ n1_ n2_ n3_; have HN := Aside0.mk (show (Kd.int .u8).R 5 w10 w.heap.size (fun _ => True) (.slice An 5 cn) [3, 0, 107, 0, 3] from ho); clear ho hb0 hgr hb; skip)
    | (go_at_call 18; refine (As.bytesE (l := [3, 0, 107, 0, 3]) (m := [3, 0, 107, 0, 3]) (Kd.R_reads' HPX.out).2.2 (Kd.R_reads' HPX.out).2.1 (Kd.R_reads' HN.out).2.2 (Kd.R_reads' HN.out).2.1 (by decide) (decide_eq_true rfl)).mono ?_; rintro r w11 ⟨rfl, hb⟩; clear HN HPX cga; have n0_ := Aside0.mk (below_step HB.out hb); have n1_ := Aside0.mk (As.V_below HA.out hb); have n2_ := Aside0.mk (blk_below BKga.out hb); clear HB HA BKga; have HB := n0_; have HA := n1_; have BKga := n2_; clear n0_ n1_ n2_; clear hb)
    | (go_at_call 16; (first | (with_reducible refine (As.knows As.s7).mono ?_) | (with_reducible refine (As.knows As.s8).mono ?_)); rintro r w12 ⟨rfl, hb⟩; have n0_ := Aside0.mk (below_step HB.out hb); have n1_ := Aside0.mk (As.V_below HA.out hb); have n2_ := Aside0.mk (blk_below BKga.out hb); clear HB HA BKga; have HB := n0_; have HA := n1_; have BKga := n2_; clear n0_ n1_ n2_; clear hb)
    | ((with_reducible refine gate_dst (N := 81) rfl ?_); refine gate_guard (by rfl) ?_; dsimp only; refine wpList_load_row rfl 25 _ rfl ga rfl 25 _ (0, 0) _ BKga.out hu rfl (by rw [As.V_size HA.out]; exact As.size) ?_)
    | (go_at_call 14; (with_reducible refine (As.rights HA.out ⟨by decide, by decide⟩ As.s5).mono ?_); rintro r w13 ⟨rfl, hb⟩; have n0_ := Aside0.mk (below_step HB.out hb); have n1_ := Aside0.mk (As.V_below HA.out hb); have n2_ := Aside0.mk (blk_below BKga.out hb); clear HB HA BKga; have HB := n0_; have HA := n1_; have BKga := n2_; clear n0_ n1_ n2_; skip; clear hb)
    | ((with_reducible refine gate_dst (N := 85) rfl ?_); refine gate_guard (by rfl) ?_; dsimp only; refine wpList_load_row rfl 25 _ rfl ga rfl 25 _ (0, 0) _ BKga.out hu rfl (by rw [As.V_size HA.out]; exact As.size) ?_)
    | ((with_reducible refine gate_dst (N := 86) rfl ?_); refine gate_guard (by rfl) ?_; dsimp only; refine wpList_load_row rfl 25 _ rfl ga rfl 25 _ (0, 0) _ BKga.out hu rfl (by rw [As.V_size HA.out]; exact As.size) ?_)
    | (go_at_call 19; (with_reducible refine (As.same HA.out HA.out ⟨by decide, by decide⟩ (As.eqb_self _)).mono ?_); rintro r w14 ⟨rfl, hb⟩; have n0_ := Aside0.mk (below_step HB.out hb); clear HB; have HB := n0_; clear n0_; skip; clear hb))
  go_ret
  exact ⟨rfl, HB.out⟩

end Go.Proofs.Ytedfbemifigoeaa.P
