import Derived.Test.YtamcpmfimicnjaaX
import Derived.Test.YtamcpmfimicnjaaKep0
import Derived.Test.YtamcpmfimicnjaaFs
import Derived.Test.YtamcpmfimicnjaaFr
import Derived.Test.YtamcpmfimicnjaaLFile
namespace Go.Proofs.Ytamcpmfimicnjaa.P
open Go.RowKit Go.Proofs.YtamcpmfimicnjaaW.PrintWords Go.Proofs.YtamcpmfimicnjaaW.PrintLast Go.Proofs.YtamcpmfimicnjaaW.PrintMore
attribute [local go_sem] max2_int min2_int max_two min_two max_three min_three max_four min_four   -- for this text's walks alone
set_option linter.unusedVariables false
set_option linter.unusedSimpArgs false
open Go.Proofs.Ytamcpmfimicnjaa.L

set_option maxHeartbeats 8000000 in
set_option maxRecDepth 100000 in
theorem Fi.does1 {a0 a1 a2 a3 a4 a5 a6 a7 a8 a9 : Int} {A1 : Option Addr} {c1 : Nat} {l1 : List S37} {w : World} (d0 : decide ((60 : Int) < (l1.length : Int)) = true) : Calls Try.prog 6 #[.agg #[.int .i64 a0, .int .i64 a1, .int .i64 a2, .int .i64 a3, .int .i64 a4, .int .i64 a5, .int .i64 a6, .int .i64 a7, .int .i64 a8, .int .i64 a9], .slice A1 l1.length c1] w fun e w' => e = .returned (.bool true) ∧ Below w.heap.size w w' := by
  have hu := Try.underlying31
  have hu25 := Try.underlying25
  have hz := Fi.zero
  have HB := Aside0.mk (Below.refl w.heap.size w)
  go_enter Try.func6, Try.ntmps6
  go_wp2_with (first
    | ((with_reducible refine gate_dst (N := 2) rfl ?_); refine box_event ?hg (N := 2) ?hd (cs := #[.int .i64 a0, .int .i64 a1, .int .i64 a2, .int .i64 a3, .int .i64 a4, .int .i64 a5, .int .i64 a6, .int .i64 a7, .int .i64 a8, .int .i64 a9]) (t := 25) ?hr ?_; (case hd => rfl); (case hg => rfl); (case hr => first | (go_simp; done) | (go_simp; rfl)); intro gb hg w1 hbox hb; have GEgb := Aside0.mk ((by rw [hg]; exact HB.out.size) : w.heap.size ≤ gb); have BKgb := Aside0.mk hbox; clear hbox hg; have n0_ := Aside0.mk (below_step HB.out hb); clear HB; have HB := n0_; clear n0_; skip; clear hb)
    | (go_at_call 7; (with_reducible refine (Fi.sure).mono ?_); rintro r w9 ⟨rfl, hb⟩; have n0_ := Aside0.mk (below_step HB.out hb); clear HB; have HB := n0_; clear n0_; skip; clear hb))
  go_ret
  exact ⟨rfl, HB.out⟩
set_option maxHeartbeats 8000000 in
set_option maxRecDepth 100000 in
theorem Fi.does2 {a0 a1 a2 a3 a4 a5 a6 a7 a8 a9 : Int} {A1 : Option Addr} {c1 : Nat} {l1 : List S37} {w : World} (d0 : decide ((60 : Int) < (l1.length : Int)) = false) (hd : decide (BankP a0 a1 a2 a3 a4 a5 a6 a7 a8 a9) = false) : Calls Try.prog 6 #[.agg #[.int .i64 a0, .int .i64 a1, .int .i64 a2, .int .i64 a3, .int .i64 a4, .int .i64 a5, .int .i64 a6, .int .i64 a7, .int .i64 a8, .int .i64 a9], .slice A1 l1.length c1] w fun e w' => e = .returned (.bool true) ∧ Below w.heap.size w w' := by
  have hu := Try.underlying31
  have hu25 := Try.underlying25
  have hz := Fi.zero
  have HB := Aside0.mk (Below.refl w.heap.size w)
  have HXN := Aside0.mk (show Fi.new a0 a1 a2 a3 a4 a5 a6 a7 a8 a9 = z31 from if_neg (of_decide_eq_false hd))
  have HNE := Aside0.mk (show (if BankP a0 a1 a2 a3 a4 a5 a6 a7 a8 a9 then (0 : Int) else 11) = 11 from if_neg (of_decide_eq_false hd))
  go_enter Try.func6, Try.ntmps6
  go_wp2_with (first
    | ((with_reducible refine gate_dst (N := 2) rfl ?_); refine box_event ?hg (N := 2) ?hd (cs := #[.int .i64 a0, .int .i64 a1, .int .i64 a2, .int .i64 a3, .int .i64 a4, .int .i64 a5, .int .i64 a6, .int .i64 a7, .int .i64 a8, .int .i64 a9]) (t := 25) ?hr ?_; (case hd => rfl); (case hg => rfl); (case hr => first | (go_simp; done) | (go_simp; rfl)); intro gb hg w1 hbox hb; have GEgb := Aside0.mk ((by rw [hg]; exact HB.out.size) : w.heap.size ≤ gb); have BKgb := Aside0.mk hbox; clear hbox hg; have n0_ := Aside0.mk (below_step HB.out hb); clear HB; have HB := n0_; clear n0_; skip; clear hb)
    | ((with_reducible refine gate_dst (N := 25) rfl ?_); refine wpList_load_row rfl 25 _ rfl gb rfl 25 _ (0, 0) _ BKgb.out hu25 rfl (by kernel_rfl) ?_)
    | ((with_reducible refine gate_dst (N := 29) rfl ?_); refine wpList_load_row rfl 25 _ rfl gb rfl 25 _ (0, 0) _ BKgb.out hu25 rfl (by kernel_rfl) ?_)
    | (go_at_call 8; (with_reducible refine (Fi.cnewE HXN.out HNE.out).mono ?_); rintro r w2 ⟨csf, rfl, hN, hb⟩; have HNf := Aside0.mk (Fi.N_lower hN HB.out.size); clear hN; have n0_ := Aside0.mk (below_step HB.out hb); have n1_ := Aside0.mk (blk_below BKgb.out hb); clear HB BKgb; have HB := n0_; have BKgb := n1_; clear n0_ n1_; clear hb)
    | ((with_reducible refine gate_dst (N := 5) rfl ?_); refine box_event ?hg (N := 5) ?hd (cs := Fi.Z) (t := 31) ?hr ?_; (case hd => rfl); (case hg => rfl); (case hr => first | (go_simp; done) | (go_simp; rfl)); intro g5 hg w3 hbox hb; have GX := Aside0.mk (Nat.le_of_eq hg.symm); have HX := Aside0.mk hb; have BKg5 := Aside0.mk hbox; clear hg hbox hb)
    | ((with_reducible refine gate_store rfl ?_); refine Fi.store_row rfl 31 _ _ rfl g5 csf rfl rfl 31 _ BKg5.out (by rw [Fi.V_size HNf.out.V]; exact Fi.size) (by rw [Fi.V_size HNf.out.V]; rfl) (Fi.V_one HNf.out.V) ?_; intro w4 hgb hgr; have hb := HX.out.grown hgr HX.out.size (fun k hk => by cases hk; exact GX.out); have n0_ := Aside0.mk (below_step HB.out hb); have n1_ := Aside0.mk (blk_below BKgb.out hb); have n2_ := Aside0.mk (Fi.N_below HNf.out hb); clear HB BKgb HNf; have HB := n0_; have BKgb := n1_; have HNf := n2_; clear n0_ n1_ n2_; clear BKg5 GX HX hb hgr; have BKg5 := Aside0.mk hgb; clear hgb)
    | (go_at_call 22; (with_reducible refine (Fi.rbank hd).mono ?_); rintro r wb ⟨rfl, hb⟩; have n0_ := Aside0.mk (below_step HB.out hb); have n1_ := Aside0.mk (blk_below BKgb.out hb); have n2_ := Aside0.mk (Fi.N_below HNf.out hb); have n3_ := Aside0.mk (blk_below BKg5.out hb); clear HB BKgb HNf BKg5; have HB := n0_; have BKgb := n1_; have HNf := n2_; have BKg5 := n3_; clear n0_ n1_ n2_ n3_; skip; clear hb)
    | ((with_reducible refine gate_dst (N := 35) rfl ?_); refine gate_guard (by rfl) ?_; dsimp only; refine wpList_load_row rfl 31 _ rfl g5 rfl 31 _ (0, 0) _ BKg5.out hu rfl (by rw [Fi.V_size HNf.out.V]; exact Fi.size) ?_)
    | (go_at_call 15; (with_reducible refine (Fi.rsame HNf.out.V (Fi.V_zero _) Fi.Fit_z (Fi.eqb_self _)).mono ?_); rintro r wd ⟨rfl, hb⟩; have n0_ := Aside0.mk (below_step HB.out hb); have n1_ := Aside0.mk (blk_below BKgb.out hb); have n2_ := Aside0.mk (Fi.N_below HNf.out hb); have n3_ := Aside0.mk (blk_below BKg5.out hb); clear HB BKgb HNf BKg5; have HB := n0_; have BKgb := n1_; have HNf := n2_; have BKg5 := n3_; clear n0_ n1_ n2_ n3_; skip; clear hb)
    | (go_at_call 7; (with_reducible refine (Fi.sure).mono ?_); rintro r w9 ⟨rfl, hb⟩; have n0_ := Aside0.mk (below_step HB.out hb); clear HB; have HB := n0_; clear n0_; skip; clear hb))
  go_ret
  exact ⟨rfl, HB.out⟩
theorem Fi.rnewE {a0 a1 a2 a3 a4 a5 a6 a7 a8 a9 : Int} {w : World} {y : S31} (hP : BankP a0 a1 a2 a3 a4 a5 a6 a7 a8 a9) (he : Fi.new a0 a1 a2 a3 a4 a5 a6 a7 a8 a9 = y) : Calls Try.prog 23 #[.agg #[.int .i64 a0, .int .i64 a1, .int .i64 a2, .int .i64 a3, .int .i64 a4, .int .i64 a5, .int .i64 a6, .int .i64 a7, .int .i64 a8, .int .i64 a9]] w fun e w' => ∃ cs', e = .returned (.agg cs') ∧ Fi.N w' w.heap.size cs' y ∧ Below w.heap.size w w' := by
  subst he
  exact Fi.rnew hP
set_option maxHeartbeats 8000000 in
set_option maxRecDepth 100000 in
theorem Fi.does3 {a0 a1 a2 a3 a4 a5 a6 a7 a8 a9 : Int} {A1 : Option Addr} {c1 : Nat} {l1 : List S37} {w : World} (d0 : decide ((60 : Int) < (l1.length : Int)) = false) (hd : decide (BankP a0 a1 a2 a3 a4 a5 a6 a7 a8 a9) = true) (d1 : decide ((Fi.new a0 a1 a2 a3 a4 a5 a6 a7 a8 a9).f1.length + (Fi.new a0 a1 a2 a3 a4 a5 a6 a7 a8 a9).f2.length + (Fi.new a0 a1 a2 a3 a4 a5 a6 a7 a8 a9).f3.length + (Fi.new a0 a1 a2 a3 a4 a5 a6 a7 a8 a9).f4.length ≤ 4000) = false) : Calls Try.prog 6 #[.agg #[.int .i64 a0, .int .i64 a1, .int .i64 a2, .int .i64 a3, .int .i64 a4, .int .i64 a5, .int .i64 a6, .int .i64 a7, .int .i64 a8, .int .i64 a9], .slice A1 l1.length c1] w fun e w' => e = .returned (.bool true) ∧ Below w.heap.size w w' := by
  have hu := Try.underlying31
  have hu25 := Try.underlying25
  have hz := Fi.zero
  have HB := Aside0.mk (Below.refl w.heap.size w)
  have HPX := Aside0.mk (Fi.new_P (of_decide_eq_true hd))
  have HPB := Aside0.mk (of_decide_eq_true hd)
  have HNE := Aside0.mk (show (if BankP a0 a1 a2 a3 a4 a5 a6 a7 a8 a9 then (0 : Int) else 11) = 0 from if_pos (of_decide_eq_true hd))
  obtain ⟨xn, hxn⟩ : ∃ x, Fi.new a0 a1 a2 a3 a4 a5 a6 a7 a8 a9 = x := ⟨_, rfl⟩
  rw [hxn] at d1 HPX
  have HXN := Aside0.mk hxn
  have HLN := Aside0.mk (show xn.f1.length ≤ 140737488351232 ∧ xn.f2.length ≤ 140737488351232 ∧ xn.f3.length ≤ 140737488351232 ∧ xn.f4.length ≤ 140737488351232 from by have h9 := Fi.P_Fit HPX.out; unfold Fi.Fit at h9; omega)
  clear hxn
  go_enter Try.func6, Try.ntmps6
  go_wp2_with (first
    | ((with_reducible refine gate_dst (N := 2) rfl ?_); refine box_event ?hg (N := 2) ?hd (cs := #[.int .i64 a0, .int .i64 a1, .int .i64 a2, .int .i64 a3, .int .i64 a4, .int .i64 a5, .int .i64 a6, .int .i64 a7, .int .i64 a8, .int .i64 a9]) (t := 25) ?hr ?_; (case hd => rfl); (case hg => rfl); (case hr => first | (go_simp; done) | (go_simp; rfl)); intro gb hg w1 hbox hb; have GEgb := Aside0.mk ((by rw [hg]; exact HB.out.size) : w.heap.size ≤ gb); have BKgb := Aside0.mk hbox; clear hbox hg; have n0_ := Aside0.mk (below_step HB.out hb); clear HB; have HB := n0_; clear n0_; skip; clear hb)
    | ((with_reducible refine gate_dst (N := 25) rfl ?_); refine wpList_load_row rfl 25 _ rfl gb rfl 25 _ (0, 0) _ BKgb.out hu25 rfl (by kernel_rfl) ?_)
    | ((with_reducible refine gate_dst (N := 29) rfl ?_); refine wpList_load_row rfl 25 _ rfl gb rfl 25 _ (0, 0) _ BKgb.out hu25 rfl (by kernel_rfl) ?_)
    | ((with_reducible refine gate_dst (N := 42) rfl ?_); refine wpList_load_row rfl 25 _ rfl gb rfl 25 _ (0, 0) _ BKgb.out hu25 rfl (by kernel_rfl) ?_)
    | (go_at_call 8; (with_reducible refine (Fi.cnewE HXN.out HNE.out).mono ?_); rintro r w2 ⟨csf, rfl, hN, hb⟩; have HNf := Aside0.mk (Fi.N_lower hN HB.out.size); clear hN; have n0_ := Aside0.mk (below_step HB.out hb); have n1_ := Aside0.mk (blk_below BKgb.out hb); clear HB BKgb; have HB := n0_; have BKgb := n1_; clear n0_ n1_; clear hb)
    | ((with_reducible refine gate_dst (N := 5) rfl ?_); refine box_event ?hg (N := 5) ?hd (cs := Fi.Z) (t := 31) ?hr ?_; (case hd => rfl); (case hg => rfl); (case hr => first | (go_simp; done) | (go_simp; rfl)); intro g5 hg w3 hbox hb; have GX := Aside0.mk (Nat.le_of_eq hg.symm); have HX := Aside0.mk hb; have BKg5 := Aside0.mk hbox; clear hg hbox hb)
    | ((with_reducible refine gate_store rfl ?_); refine Fi.store_row rfl 31 _ _ rfl g5 csf rfl rfl 31 _ BKg5.out (by rw [Fi.V_size HNf.out.V]; exact Fi.size) (by rw [Fi.V_size HNf.out.V]; rfl) (Fi.V_one HNf.out.V) ?_; intro w4 hgb hgr; have hb := HX.out.grown hgr HX.out.size (fun k hk => by cases hk; exact GX.out); have n0_ := Aside0.mk (below_step HB.out hb); have n1_ := Aside0.mk (blk_below BKgb.out hb); have n2_ := Aside0.mk (Fi.N_below HNf.out hb); clear HB BKgb HNf; have HB := n0_; have BKgb := n1_; have HNf := n2_; clear n0_ n1_ n2_; clear BKg5 GX HX hb hgr; have BKg5 := Aside0.mk hgb; clear hgb)
    | (go_at_call 22; (with_reducible refine (Fi.rbank hd).mono ?_); rintro r wb ⟨rfl, hb⟩; have n0_ := Aside0.mk (below_step HB.out hb); have n1_ := Aside0.mk (blk_below BKgb.out hb); have n2_ := Aside0.mk (Fi.N_below HNf.out hb); have n3_ := Aside0.mk (blk_below BKg5.out hb); clear HB BKgb HNf BKg5; have HB := n0_; have BKgb := n1_; have HNf := n2_; have BKg5 := n3_; clear n0_ n1_ n2_ n3_; skip; clear hb)
    | (go_at_call 23; (with_reducible refine (Fi.rnewE HPB.out HXN.out).mono ?_); rintro r wn ⟨csr, rfl, hN, hb⟩; have HNr := Aside0.mk (Fi.N_lower hN HB.out.size); clear hN; have n0_ := Aside0.mk (below_step HB.out hb); have n1_ := Aside0.mk (blk_below BKgb.out hb); have n2_ := Aside0.mk (Fi.N_below HNf.out hb); have n3_ := Aside0.mk (blk_below BKg5.out hb); clear HB BKgb HNf BKg5; have HB := n0_; have BKgb := n1_; have HNf := n2_; have BKg5 := n3_; clear n0_ n1_ n2_ n3_; clear hb)
    | ((with_reducible refine gate_dst (N := 7) rfl ?_); refine box_event ?hg (N := 7) ?hd (cs := Fi.Z) (t := 31) ?hr ?_; (case hd => rfl); (case hg => rfl); (case hr => first | (go_simp; done) | (go_simp; rfl)); intro g7 hg w7 hbox hb; have GX := Aside0.mk (Nat.le_of_eq hg.symm); have HX := Aside0.mk hb; have BKg7 := Aside0.mk hbox; clear hg hbox hb)
    | ((with_reducible refine gate_store rfl ?_); refine Fi.store_row rfl 31 _ _ rfl g7 csr rfl rfl 31 _ BKg7.out (by rw [Fi.V_size HNr.out.V]; exact Fi.size) (by rw [Fi.V_size HNr.out.V]; rfl) (Fi.V_one HNr.out.V) ?_; intro w8 hgb hgr; have GEg7 := Aside0.mk (Nat.le_trans HB.out.size GX.out); have hb := HX.out.grown hgr HX.out.size (fun k hk => by cases hk; exact GX.out); have n0_ := Aside0.mk (below_step HB.out hb); have n1_ := Aside0.mk (blk_below BKgb.out hb); have n2_ := Aside0.mk (Fi.N_below HNf.out hb); have n3_ := Aside0.mk (blk_below BKg5.out hb); have n4_ := Aside0.mk (Fi.N_below HNr.out hb); clear HB BKgb HNf BKg5 HNr; have HB := n0_; have BKgb := n1_; have HNf := n2_; have BKg5 := n3_; have HNr := n4_; clear n0_ n1_ n2_ n3_ n4_; clear BKg7 GX HX hb hgr; have BKg7 := Aside0.mk hgb; clear hgb)
    | ((with_reducible refine gate_dst (N := 44) rfl ?_); refine wpList_load_row rfl 31 _ rfl g7 rfl 31 _ (0, 0) _ BKg7.out hu rfl (by rw [Fi.V_size HNr.out.V]; exact Fi.size) ?_)
    | (go_at_call 9; (with_reducible refine (Fi.few HNr.out.V HLN.out d1).mono ?_); rintro r wf ⟨rfl, hb⟩; have n0_ := Aside0.mk (below_step HB.out hb); have n1_ := Aside0.mk (blk_below BKgb.out hb); have n2_ := Aside0.mk (Fi.N_below HNf.out hb); have n3_ := Aside0.mk (blk_below BKg5.out hb); have n4_ := Aside0.mk (Fi.N_below HNr.out hb); have n5_ := Aside0.mk (blk_below BKg7.out hb); clear HB BKgb HNf BKg5 HNr BKg7; have HB := n0_; have BKgb := n1_; have HNf := n2_; have BKg5 := n3_; have HNr := n4_; have BKg7 := n5_; clear n0_ n1_ n2_ n3_ n4_ n5_; skip; clear hb)
    | (go_at_call 7; (with_reducible refine (Fi.sure).mono ?_); rintro r w9 ⟨rfl, hb⟩; have n0_ := Aside0.mk (below_step HB.out hb); clear HB; have HB := n0_; clear n0_; skip; clear hb))
  go_ret
  exact ⟨rfl, HB.out⟩

end Go.Proofs.Ytamcpmfimicnjaa.P
