import Derived.Test.YtedfbemifigoeaaX
import Derived.Test.YtedfbemifigoeaaAb
import Derived.Test.YtedfbemifigoeaaAc
import Derived.Test.YtedfbemifigoeaaPx1
import Derived.Test.YtedfbemifigoeaaPx2
import Derived.Test.YtedfbemifigoeaaPx3
import Derived.Test.YtedfbemifigoeaaPx4
namespace Go.Proofs.Ytedfbemifigoeaa.P
open Go.RowKit Go.Proofs.YtedfbemifigoeaaW.PrintWords Go.Proofs.YtedfbemifigoeaaW.PrintLast Go.Proofs.YtedfbemifigoeaaW.PrintMore
attribute [local go_sem] max2_int min2_int max_two min_two max_three min_three max_four min_four   -- for this text's walks alone
set_option linter.unusedVariables false
set_option linter.unusedSimpArgs false


theorem As.rknows {f : Int} {w : World} {b : Bool} (hb0 : As.known f = b) : Calls Try.prog 17 #[.int .i64 f] w fun e w' => e = .returned (.bool b) ∧ Below w.heap.size w w' :=
  (bilgeref15_Known.calls f b w (by subst hb0; unfold bilgeref15_Known.f As.known; (repeat' split) <;> simp_all)).mono (fun e w' hh => ⟨hh.1, hh.2.below⟩)
theorem As.rinc {n p q : Int} {w : World} {y : Bool} (hy : As.in n p q = y) : Calls Try.prog 46 #[.int .i64 n, .int .i64 p, .int .i64 q] w fun e w' => e = .returned (.bool y) ∧ Below w.heap.size w w' :=
  (bilgeref15_in.calls n p q y w (by subst hy; unfold bilgeref15_in.f As.in; by_cases h1 : p ≤ n <;> by_cases h2 : n ≤ q <;> simp [h1, h2])).mono (fun e w' hh => ⟨hh.1, hh.2.below⟩)
set_option maxHeartbeats 4000000 in
set_option maxRecDepth 100000 in
theorem As.rrights {w : World} {cs : Array Value} {x : S25} (h : As.V w cs x) (hf : As.Fit x) {b : Bool} (he : As.right x = b) : Calls Try.prog 15 #[.agg cs] w fun e w' => e = .returned (.bool b) ∧ Below w.heap.size w w' := by
  have HV := Aside0.mk h
  obtain ⟨A8, c8, A9, c9, rfl, k8, g8, k9, g9⟩ := As.open h
  have HF := Aside0.mk hf
  clear h hf k8 g8 k9 g9
  unfold As.right at he
  have hu := Try.underlying25
  have hz := As.zero
  have HB := Aside0.mk (Below.refl w.heap.size w)
  cases hk : As.known x.f0 with
  | false =>
    obtain rfl : false = b := by rw [← he]; simp only [hk, Bool.false_and, Bool.and_false, Bool.true_and]
    go_enter Try.func15, Try.ntmps15
    go_wp2_with (first
      | ((with_reducible refine gate_dst (N := 1) rfl ?_); refine box_event ?hg (N := 1) ?hd (cs := #[.int .i64 x.f0, .int .i64 x.f1, .int .i64 x.f2, .int .i64 x.f3, .int .i64 x.f4, .int .i64 x.f5, .int .i64 x.f6, .int .i64 x.f7, .slice A8 x.f8.length c8, .slice A9 x.f9.length c9]) (t := 25) ?hr ?_; (case hd => rfl); (case hg => rfl); (case hr => first | (go_simp; done) | (go_simp; rfl)); intro g1 hg w1 hbox hb; have GEg1 := Aside0.mk ((by rw [hg]; exact HB.out.size) : w.heap.size ≤ g1); have BKg1 := Aside0.mk hbox; clear hbox hg; have n0_ := Aside0.mk (below_step HB.out hb); clear HB; have HB := n0_; clear n0_; skip; clear hb)
      | (refine wpList_load_row rfl 25 _ rfl g1 rfl 25 _ (0, 0) _ BKg1.out hu rfl (by kernel_rfl) ?_)
      | (go_at_call 45; (with_reducible refine (As.only (As.V_below HV.out HB.out) hk).mono ?_); rintro r w2 ⟨cso, rfl, ⟨y_, hV, hy⟩, hb⟩; clear hy; have HO := Aside0.mk hV; clear hV; have n0_ := Aside0.mk (below_step HB.out hb); have n1_ := Aside0.mk (blk_below BKg1.out hb); clear HB BKg1; have HB := n0_; have BKg1 := n1_; clear n0_ n1_; clear hb)
      | ((with_reducible refine gate_dst (N := 3) rfl ?_); refine box_event ?hg (N := 3) ?hd (cs := As.Z) (t := 25) ?hr ?_; (case hd => rfl); (case hg => rfl); (case hr => first | (go_simp; done) | (go_simp; rfl)); intro g2 hg w3 hbox hb; have GX := Aside0.mk (Nat.le_of_eq hg.symm); have HX := Aside0.mk hb; have BKg2 := Aside0.mk hbox; clear hg hbox hb)
      | ((with_reducible refine gate_store rfl ?_); refine As.store_row rfl 25 _ _ rfl g2 cso rfl rfl 25 _ BKg2.out (by rw [As.V_size HO.out]; exact As.size) (by rw [As.V_size HO.out]; rfl) (As.V_one HO.out) ?_; intro w4 hgb hgr; have hb := HX.out.grown hgr HX.out.size (fun k hk => by cases hk; exact GX.out); have n0_ := Aside0.mk (below_step HB.out hb); have n1_ := Aside0.mk (blk_below BKg1.out hb); have n2_ := Aside0.mk (As.V_below HO.out hb); clear HB BKg1 HO; have HB := n0_; have BKg1 := n1_; have HO := n2_; clear n0_ n1_ n2_; clear BKg2 GX HX hb hgr; have BKg2 := Aside0.mk hgb; clear hgb; (try clear cg1); have cg1 := fun i => blk_cell BKg1.out i))
    go_ret
    exact ⟨rfl, HB.out⟩
  | true =>
    cases hq : As.eqb x (As.own x) with
    | false =>
      obtain rfl : false = b := by rw [← he]; simp only [hk, hq, Bool.false_and, Bool.and_false, Bool.true_and]
      go_enter Try.func15, Try.ntmps15
      go_wp2_with (first
        | ((with_reducible refine gate_dst (N := 1) rfl ?_); refine box_event ?hg (N := 1) ?hd (cs := #[.int .i64 x.f0, .int .i64 x.f1, .int .i64 x.f2, .int .i64 x.f3, .int .i64 x.f4, .int .i64 x.f5, .int .i64 x.f6, .int .i64 x.f7, .slice A8 x.f8.length c8, .slice A9 x.f9.length c9]) (t := 25) ?hr ?_; (case hd => rfl); (case hg => rfl); (case hr => first | (go_simp; done) | (go_simp; rfl)); intro g1 hg w1 hbox hb; have GEg1 := Aside0.mk ((by rw [hg]; exact HB.out.size) : w.heap.size ≤ g1); have BKg1 := Aside0.mk hbox; clear hbox hg; have n0_ := Aside0.mk (below_step HB.out hb); clear HB; have HB := n0_; clear n0_; skip; clear hb)
        | (refine wpList_load_row rfl 25 _ rfl g1 rfl 25 _ (0, 0) _ BKg1.out hu rfl (by kernel_rfl) ?_)
        | (go_at_call 45; (with_reducible refine (As.only (As.V_below HV.out HB.out) hk).mono ?_); rintro r w2 ⟨cso, rfl, ⟨y_, hV, hy⟩, hb⟩; obtain rfl := hy rfl; have HO := Aside0.mk hV; clear hV; have n0_ := Aside0.mk (below_step HB.out hb); have n1_ := Aside0.mk (blk_below BKg1.out hb); clear HB BKg1; have HB := n0_; have BKg1 := n1_; clear n0_ n1_; clear hb)
        | ((with_reducible refine gate_dst (N := 3) rfl ?_); refine box_event ?hg (N := 3) ?hd (cs := As.Z) (t := 25) ?hr ?_; (case hd => rfl); (case hg => rfl); (case hr => first | (go_simp; done) | (go_simp; rfl)); intro g2 hg w3 hbox hb; have GX := Aside0.mk (Nat.le_of_eq hg.symm); have HX := Aside0.mk hb; have BKg2 := Aside0.mk hbox; clear hg hbox hb)
        | ((with_reducible refine gate_store rfl ?_); refine As.store_row rfl 25 _ _ rfl g2 cso rfl rfl 25 _ BKg2.out (by rw [As.V_size HO.out]; exact As.size) (by rw [As.V_size HO.out]; rfl) (As.V_one HO.out) ?_; intro w4 hgb hgr; have hb := HX.out.grown hgr HX.out.size (fun k hk => by cases hk; exact GX.out); have n0_ := Aside0.mk (below_step HB.out hb); have n1_ := Aside0.mk (blk_below BKg1.out hb); have n2_ := Aside0.mk (As.V_below HO.out hb); clear HB BKg1 HO; have HB := n0_; have BKg1 := n1_; have HO := n2_; clear n0_ n1_ n2_; clear BKg2 GX HX hb hgr; have BKg2 := Aside0.mk hgb; clear hgb; (try clear cg1); have cg1 := fun i => blk_cell BKg1.out i)
        | ((with_reducible refine gate_dst (N := 13) rfl ?_); refine gate_guard (by rfl) ?_; dsimp only; refine wpList_load_row rfl 25 _ rfl g1 rfl 25 _ (0, 0) _ BKg1.out hu rfl (by kernel_rfl) ?_)
        | ((with_reducible refine gate_dst (N := 14) rfl ?_); refine gate_guard (by rfl) ?_; dsimp only; refine wpList_load_row rfl 25 _ rfl g2 rfl 25 _ (0, 0) _ BKg2.out hu rfl (by rw [As.V_size HO.out]; exact As.size) ?_)
        | (go_at_call 20; (with_reducible refine (As.rsame (As.V_below HV.out HB.out) HO.out HF.out hq).mono ?_); rintro r w5 ⟨rfl, hb⟩; have n0_ := Aside0.mk (below_step HB.out hb); have n1_ := Aside0.mk (blk_below BKg1.out hb); have n2_ := Aside0.mk (As.V_below HO.out hb); have n3_ := Aside0.mk (blk_below BKg2.out hb); clear HB BKg1 HO BKg2; have HB := n0_; have BKg1 := n1_; have HO := n2_; have BKg2 := n3_; clear n0_ n1_ n2_ n3_; (try clear cg1); have cg1 := fun i => blk_cell BKg1.out i; clear hb))
      go_ret
      exact ⟨rfl, HB.out⟩
    | true =>
      cases hi : As.in x.f1 0 65535 with
      | false =>
        obtain rfl : false = b := by rw [← he]; simp only [hk, hq, hi, Bool.false_and, Bool.and_false, Bool.true_and]
        go_enter Try.func15, Try.ntmps15
        go_wp2_with (first
          | ((with_reducible refine gate_dst (N := 1) rfl ?_); refine box_event ?hg (N := 1) ?hd (cs := #[.int .i64 x.f0, .int .i64 x.f1, .int .i64 x.f2, .int .i64 x.f3, .int .i64 x.f4, .int .i64 x.f5, .int .i64 x.f6, .int .i64 x.f7, .slice A8 x.f8.length c8, .slice A9 x.f9.length c9]) (t := 25) ?hr ?_; (case hd => rfl); (case hg => rfl); (case hr => first | (go_simp; done) | (go_simp; rfl)); intro g1 hg w1 hbox hb; have GEg1 := Aside0.mk ((by rw [hg]; exact HB.out.size) : w.heap.size ≤ g1); have BKg1 := Aside0.mk hbox; clear hbox hg; have n0_ := Aside0.mk (below_step HB.out hb); clear HB; have HB := n0_; clear n0_; skip; clear hb)
          | (refine wpList_load_row rfl 25 _ rfl g1 rfl 25 _ (0, 0) _ BKg1.out hu rfl (by kernel_rfl) ?_)
          | (go_at_call 45; (with_reducible refine (As.only (As.V_below HV.out HB.out) hk).mono ?_); rintro r w2 ⟨cso, rfl, ⟨y_, hV, hy⟩, hb⟩; obtain rfl := hy rfl; have HO := Aside0.mk hV; clear hV; have n0_ := Aside0.mk (below_step HB.out hb); have n1_ := Aside0.mk (blk_below BKg1.out hb); clear HB BKg1; have HB := n0_; have BKg1 := n1_; clear n0_ n1_; clear hb)
          | ((with_reducible refine gate_dst (N := 3) rfl ?_); refine box_event ?hg (N := 3) ?hd (cs := As.Z) (t := 25) ?hr ?_; (case hd => rfl); (case hg => rfl); (case hr => first | (go_simp; done) | (go_simp; rfl)); intro g2 hg w3 hbox hb; have GX := Aside0.mk (Nat.le_of_eq hg.symm); have HX := Aside0.mk hb; have BKg2 := Aside0.mk hbox; clear hg hbox hb)
          | ((with_reducible refine gate_store rfl ?_); refine As.store_row rfl 25 _ _ rfl g2 cso rfl rfl 25 _ BKg2.out (by rw [As.V_size HO.out]; exact As.size) (by rw [As.V_size HO.out]; rfl) (As.V_one HO.out) ?_; intro w4 hgb hgr; have hb := HX.out.grown hgr HX.out.size (fun k hk => by cases hk; exact GX.out); have n0_ := Aside0.mk (below_step HB.out hb); have n1_ := Aside0.mk (blk_below BKg1.out hb); have n2_ := Aside0.mk (As.V_below HO.out hb); clear HB BKg1 HO; have HB := n0_; have BKg1 := n1_; have HO := n2_; clear n0_ n1_ n2_; clear BKg2 GX HX hb hgr; have BKg2 := Aside0.mk hgb; clear hgb; (try clear cg1); have cg1 := fun i => blk_cell BKg1.out i)
          | ((with_reducible refine gate_dst (N := 13) rfl ?_); refine gate_guard (by rfl) ?_; dsimp only; refine wpList_load_row rfl 25 _ rfl g1 rfl 25 _ (0, 0) _ BKg1.out hu rfl (by kernel_rfl) ?_)
          | ((with_reducible refine gate_dst (N := 14) rfl ?_); refine gate_guard (by rfl) ?_; dsimp only; refine wpList_load_row rfl 25 _ rfl g2 rfl 25 _ (0, 0) _ BKg2.out hu rfl (by rw [As.V_size HO.out]; exact As.size) ?_)
          | (go_at_call 20; (with_reducible refine (As.rsame (As.V_below HV.out HB.out) HO.out HF.out hq).mono ?_); rintro r w5 ⟨rfl, hb⟩; have n0_ := Aside0.mk (below_step HB.out hb); have n1_ := Aside0.mk (blk_below BKg1.out hb); have n2_ := Aside0.mk (As.V_below HO.out hb); have n3_ := Aside0.mk (blk_below BKg2.out hb); clear HB BKg1 HO BKg2; have HB := n0_; have BKg1 := n1_; have HO := n2_; have BKg2 := n3_; clear n0_ n1_ n2_ n3_; (try clear cg1); have cg1 := fun i => blk_cell BKg1.out i; clear hb)
          | (go_at_call 46; (first | (with_reducible refine (As.rinc hi).mono ?_) | (with_reducible refine (As.rinc q1).mono ?_) | (with_reducible refine (As.rinc q2).mono ?_) | (with_reducible refine (As.rinc q3).mono ?_) | (with_reducible refine (As.rinc rfl).mono ?_)); rintro r w6 ⟨rfl, hb⟩; (try clear HO BKg2); have n0_ := Aside0.mk (below_step HB.out hb); have n1_ := Aside0.mk (blk_below BKg1.out hb); clear HB BKg1; have HB := n0_; have BKg1 := n1_; clear n0_ n1_; (try clear cg1); have cg1 := fun i => blk_cell BKg1.out i; clear hb))
        go_ret
        exact ⟨rfl, HB.out⟩
      | true =>
        obtain hb9 : As.asked x = b := by rw [← he]; simp only [hk, hq, hi, Bool.true_and]
        clear he
        rcases As.leaves x with ⟨dk, d1, d2, d3, d4, d5, d6, d15, d16, d22, d23, ha⟩ | ⟨dk, d1, d2, d3, d4, d5, d6, d15, d16, d22, d23, ha⟩ | ⟨dk, d1, d2, d3, d4, d5, d6, d15, d16, d22, d23, ha⟩ | ⟨dk, d1, d2, d3, d4, d5, d6, d15, d16, d22, d23, ha⟩ | ⟨dk, d1, d2, d3, d4, d5, d6, d15, d16, d22, d23, ha, q1⟩ | ⟨dk, d1, d2, d3, d4, d5, d6, d15, d16, d22, d23, ha, q1⟩ | ⟨dk, d1, d2, d3, d4, d5, d6, d15, d16, d22, d23, ha⟩ | ⟨dk, d1, d2, d3, d4, d5, d6, d15, d16, d22, d23, ha, q1⟩ | ⟨dk, d1, d2, d3, d4, d5, d6, d15, d16, d22, d23, ha, q1⟩ | ⟨dk, d1, d2, d3, d4, d5, d6, d15, d16, d22, d23, ha, q1⟩ | ⟨dk, d1, d2, d3, d4, d5, d6, d15, d16, d22, d23, ha, q1⟩ | ⟨dk, d1, d2, d3, d4, d5, d6, d15, d16, d22, d23, ha, q1⟩ | ⟨dk, d1, d2, d3, d4, d5, d6, d15, d16, d22, d23, ha, q1⟩ | ⟨dk, d1, d2, d3, d4, d5, d6, d15, d16, d22, d23, ha, q1⟩ | ⟨dk, d1, d2, d3, d4, d5, d6, d15, d16, d22, d23, ha, q1, q2⟩ | ⟨dk, d1, d2, d3, d4, d5, d6, d15, d16, d22, d23, ha, q1, q2, q3⟩ | ⟨dk, d1, d2, d3, d4, d5, d6, d15, d16, d22, d23, ha, q1, q2, q3⟩ | ⟨dk, d1, d2, d3, d4, d5, d6, d15, d16, d22, d23, ha⟩
        all_goals
          (try (exact absurd (dk.symm.trans hk) (by decide)))
        all_goals
          obtain rfl := ha.symm.trans hb9
          clear ha hb9 dk
          go_enter Try.func15, Try.ntmps15
          go_wp2_with (first
            | ((with_reducible refine gate_dst (N := 1) rfl ?_); refine box_event ?hg (N := 1) ?hd (cs := #[.int .i64 x.f0, .int .i64 x.f1, .int .i64 x.f2, .int .i64 x.f3, .int .i64 x.f4, .int .i64 x.f5, .int .i64 x.f6, .int .i64 x.f7, .slice A8 x.f8.length c8, .slice A9 x.f9.length c9]) (t := 25) ?hr ?_; (case hd => rfl); (case hg => rfl); (case hr => first | (go_simp; done) | (go_simp; rfl)); intro g1 hg w1 hbox hb; have GEg1 := Aside0.mk ((by rw [hg]; exact HB.out.size) : w.heap.size ≤ g1); have BKg1 := Aside0.mk hbox; clear hbox hg; have n0_ := Aside0.mk (below_step HB.out hb); clear HB; have HB := n0_; clear n0_; skip; clear hb)
            | (refine wpList_load_row rfl 25 _ rfl g1 rfl 25 _ (0, 0) _ BKg1.out hu rfl (by kernel_rfl) ?_)
            | (go_at_call 45; (with_reducible refine (As.only (As.V_below HV.out HB.out) hk).mono ?_); rintro r w2 ⟨cso, rfl, ⟨y_, hV, hy⟩, hb⟩; obtain rfl := hy rfl; have HO := Aside0.mk hV; clear hV; have n0_ := Aside0.mk (below_step HB.out hb); have n1_ := Aside0.mk (blk_below BKg1.out hb); clear HB BKg1; have HB := n0_; have BKg1 := n1_; clear n0_ n1_; clear hb)
            | ((with_reducible refine gate_dst (N := 3) rfl ?_); refine box_event ?hg (N := 3) ?hd (cs := As.Z) (t := 25) ?hr ?_; (case hd => rfl); (case hg => rfl); (case hr => first | (go_simp; done) | (go_simp; rfl)); intro g2 hg w3 hbox hb; have GX := Aside0.mk (Nat.le_of_eq hg.symm); have HX := Aside0.mk hb; have BKg2 := Aside0.mk hbox; clear hg hbox hb)
            | ((with_reducible refine gate_store rfl ?_); refine As.store_row rfl 25 _ _ rfl g2 cso rfl rfl 25 _ BKg2.out (by rw [As.V_size HO.out]; exact As.size) (by rw [As.V_size HO.out]; rfl) (As.V_one HO.out) ?_; intro w4 hgb hgr; have hb := HX.out.grown hgr HX.out.size (fun k hk => by cases hk; exact GX.out); have n0_ := Aside0.mk (below_step HB.out hb); have n1_ := Aside0.mk (blk_below BKg1.out hb); have n2_ := Aside0.mk (As.V_below HO.out hb); clear HB BKg1 HO; have HB := n0_; have BKg1 := n1_; have HO := n2_; clear n0_ n1_ n2_; clear BKg2 GX HX hb hgr; have BKg2 := Aside0.mk hgb; clear hgb; (try clear cg1); have cg1 := fun i => blk_cell BKg1.out i)
            | ((with_reducible refine gate_dst (N := 13) rfl ?_); refine gate_guard (by rfl) ?_; dsimp only; refine wpList_load_row rfl 25 _ rfl g1 rfl 25 _ (0, 0) _ BKg1.out hu rfl (by kernel_rfl) ?_)
            | ((with_reducible refine gate_dst (N := 14) rfl ?_); refine gate_guard (by rfl) ?_; dsimp only; refine wpList_load_row rfl 25 _ rfl g2 rfl 25 _ (0, 0) _ BKg2.out hu rfl (by rw [As.V_size HO.out]; exact As.size) ?_)
            | (go_at_call 20; (with_reducible refine (As.rsame (As.V_below HV.out HB.out) HO.out HF.out hq).mono ?_); rintro r w5 ⟨rfl, hb⟩; have n0_ := Aside0.mk (below_step HB.out hb); have n1_ := Aside0.mk (blk_below BKg1.out hb); have n2_ := Aside0.mk (As.V_below HO.out hb); have n3_ := Aside0.mk (blk_below BKg2.out hb); clear HB BKg1 HO BKg2; have HB := n0_; have BKg1 := n1_; have HO := n2_; have BKg2 := n3_; clear n0_ n1_ n2_ n3_; (try clear cg1); have cg1 := fun i => blk_cell BKg1.out i; clear hb)
            | (go_at_call 46; (first | (with_reducible refine (As.rinc hi).mono ?_) | (with_reducible refine (As.rinc q1).mono ?_) | (with_reducible refine (As.rinc q2).mono ?_) | (with_reducible refine (As.rinc q3).mono ?_) | (with_reducible refine (As.rinc rfl).mono ?_)); rintro r w6 ⟨rfl, hb⟩; (try clear HO BKg2); have n0_ := Aside0.mk (below_step HB.out hb); have n1_ := Aside0.mk (blk_below BKg1.out hb); clear HB BKg1; have HB := n0_; have BKg1 := n1_; clear n0_ n1_; (try clear cg1); have cg1 := fun i => blk_cell BKg1.out i; clear hb))
          go_ret
          exact ⟨rfl, HB.out⟩

end Go.Proofs.Ytedfbemifigoeaa.P
