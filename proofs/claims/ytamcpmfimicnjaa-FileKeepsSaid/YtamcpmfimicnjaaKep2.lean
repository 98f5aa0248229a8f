import Derived.Test.YtamcpmfimicnjaaX
import Derived.Test.YtamcpmfimicnjaaKep0
import Derived.Test.YtamcpmfimicnjaaFs
import Derived.Test.YtamcpmfimicnjaaLFile
namespace Go.Proofs.Ytamcpmfimicnjaa.P
open Go.RowKit Go.Proofs.YtamcpmfimicnjaaW.PrintWords Go.Proofs.YtamcpmfimicnjaaW.PrintLast Go.Proofs.YtamcpmfimicnjaaW.PrintMore
attribute [local go_sem] max2_int min2_int max_two min_two max_three min_three max_four min_four   -- for this text's walks alone
set_option linter.unusedVariables false
set_option linter.unusedSimpArgs false
open Go.Proofs.Ytamcpmfimicnjaa.L

set_option maxHeartbeats 8000000 in
set_option maxRecDepth 100000 in
theorem Fi.keeps1 {a0 a1 a2 a3 a4 a5 a6 a7 a8 a9 : Int} {A1 : Option Addr} {c1 : Nat} {l1 : List S37} {w : World} (d0 : decide ((60 : Int) < (l1.length : Int)) = true) : Calls Try.prog 3 #[.agg #[.int .i64 a0, .int .i64 a1, .int .i64 a2, .int .i64 a3, .int .i64 a4, .int .i64 a5, .int .i64 a6, .int .i64 a7, .int .i64 a8, .int .i64 a9], .slice A1 l1.length c1] w fun e w' => e = .returned (.bool true) ∧ Below w.heap.size w w' := by
  have hu := Try.underlying31
  have hu25 := Try.underlying25
  have hz := Fi.zero
  have HB := Aside0.mk (Below.refl w.heap.size w)
  go_enter Try.func3, Try.ntmps3
  go_wp2_with (first
    | ((with_reducible refine gate_dst (N := 2) rfl ?_); refine box_event ?hg (N := 2) ?hd (cs := #[.int .i64 a0, .int .i64 a1, .int .i64 a2, .int .i64 a3, .int .i64 a4, .int .i64 a5, .int .i64 a6, .int .i64 a7, .int .i64 a8, .int .i64 a9]) (t := 25) ?hr ?_; (case hd => rfl); (case hg => rfl); (case hr => first | (go_simp; done) | (go_simp; rfl)); intro gb hg w1 hbox hb; have GEgb := Aside0.mk ((by rw [hg]; exact HB.out.size) : w.heap.size ≤ gb); have BKgb := Aside0.mk hbox; clear hbox hg; have n0_ := Aside0.mk (below_step HB.out hb); clear HB; have HB := n0_; clear n0_; skip; clear hb)
    | (go_at_call 7; (with_reducible refine (Fi.sure).mono ?_); rintro r w9 ⟨rfl, hb⟩; have n0_ := Aside0.mk (below_step HB.out hb); clear HB; have HB := n0_; clear n0_; skip; clear hb))
  go_ret
  exact ⟨rfl, HB.out⟩
set_option maxHeartbeats 8000000 in
set_option maxRecDepth 100000 in
theorem Fi.keeps2 {a0 a1 a2 a3 a4 a5 a6 a7 a8 a9 : Int} {A1 : Option Addr} {c1 : Nat} {l1 : List S37} {w : World} (d0 : decide ((60 : Int) < (l1.length : Int)) = false) (hP : ¬ BankP a0 a1 a2 a3 a4 a5 a6 a7 a8 a9) : Calls Try.prog 3 #[.agg #[.int .i64 a0, .int .i64 a1, .int .i64 a2, .int .i64 a3, .int .i64 a4, .int .i64 a5, .int .i64 a6, .int .i64 a7, .int .i64 a8, .int .i64 a9], .slice A1 l1.length c1] w fun e w' => e = .returned (.bool true) ∧ Below w.heap.size w w' := by
  have hu := Try.underlying31
  have hu25 := Try.underlying25
  have hz := Fi.zero
  have HB := Aside0.mk (Below.refl w.heap.size w)
  have HXN := Aside0.mk (show Fi.new a0 a1 a2 a3 a4 a5 a6 a7 a8 a9 = z31 from if_neg hP)
  have HNE := Aside0.mk (show (if BankP a0 a1 a2 a3 a4 a5 a6 a7 a8 a9 then (0 : Int) else 11) = 11 from if_neg hP)
  clear hP
  go_enter Try.func3, Try.ntmps3
  go_wp2_with (first
    | ((with_reducible refine gate_dst (N := 2) rfl ?_); refine box_event ?hg (N := 2) ?hd (cs := #[.int .i64 a0, .int .i64 a1, .int .i64 a2, .int .i64 a3, .int .i64 a4, .int .i64 a5, .int .i64 a6, .int .i64 a7, .int .i64 a8, .int .i64 a9]) (t := 25) ?hr ?_; (case hd => rfl); (case hg => rfl); (case hr => first | (go_simp; done) | (go_simp; rfl)); intro gb hg w1 hbox hb; have GEgb := Aside0.mk ((by rw [hg]; exact HB.out.size) : w.heap.size ≤ gb); have BKgb := Aside0.mk hbox; clear hbox hg; have n0_ := Aside0.mk (below_step HB.out hb); clear HB; have HB := n0_; clear n0_; skip; clear hb)
    | ((with_reducible refine gate_dst (N := 23) rfl ?_); refine wpList_load_row rfl 25 _ rfl gb rfl 25 _ (0, 0) _ BKgb.out hu25 rfl (by kernel_rfl) ?_)
    | (go_at_call 8; (with_reducible refine (Fi.cnewE HXN.out HNE.out).mono ?_); rintro r w2 ⟨csf, rfl, hN, hb⟩; have HNf := Aside0.mk (Fi.N_lower hN HB.out.size); clear hN; clear BKgb; have n0_ := Aside0.mk (below_step HB.out hb); clear HB; have HB := n0_; clear n0_; clear hb)
    | ((with_reducible refine gate_dst (N := 5) rfl ?_); refine box_event ?hg (N := 5) ?hd (cs := Fi.Z) (t := 31) ?hr ?_; (case hd => rfl); (case hg => rfl); (case hr => first | (go_simp; done) | (go_simp; rfl)); intro g5 hg w3 hbox hb; have GX := Aside0.mk (Nat.le_of_eq hg.symm); have HX := Aside0.mk hb; have BKg5 := Aside0.mk hbox; clear hg hbox hb)
    | ((with_reducible refine gate_store rfl ?_); refine Fi.store_row rfl 31 _ _ rfl g5 csf rfl rfl 31 _ BKg5.out (by rw [Fi.V_size HNf.out.V]; exact Fi.size) (by rw [Fi.V_size HNf.out.V]; rfl) (Fi.V_one HNf.out.V) ?_; intro w4 hgb hgr; have hb := HX.out.grown hgr HX.out.size (fun k hk => by cases hk; exact GX.out); have n0_ := Aside0.mk (below_step HB.out hb); have n1_ := Aside0.mk (Fi.N_below HNf.out hb); clear HB HNf; have HB := n0_; have HNf := n1_; clear n0_ n1_; clear BKg5 GX HX hb hgr; have BKg5 := Aside0.mk hgb; clear hgb)
    | (go_at_call 7; (with_reducible refine (Fi.sure).mono ?_); rintro r w9 ⟨rfl, hb⟩; have n0_ := Aside0.mk (below_step HB.out hb); clear HB BKg5 HNf; have HB := n0_; clear n0_; skip; clear hb))
  go_ret
  exact ⟨rfl, HB.out⟩
set_option maxHeartbeats 8000000 in
set_option maxRecDepth 100000 in
theorem Fi.keeps3 {a0 a1 a2 a3 a4 a5 a6 a7 a8 a9 : Int} {A1 : Option Addr} {c1 : Nat} {l1 : List S37} {w : World} (d0 : decide ((60 : Int) < (l1.length : Int)) = false) (hP : BankP a0 a1 a2 a3 a4 a5 a6 a7 a8 a9) (d1 : decide ((Fi.new a0 a1 a2 a3 a4 a5 a6 a7 a8 a9).f1.length + (Fi.new a0 a1 a2 a3 a4 a5 a6 a7 a8 a9).f2.length + (Fi.new a0 a1 a2 a3 a4 a5 a6 a7 a8 a9).f3.length + (Fi.new a0 a1 a2 a3 a4 a5 a6 a7 a8 a9).f4.length ≤ 4000) = false) : Calls Try.prog 3 #[.agg #[.int .i64 a0, .int .i64 a1, .int .i64 a2, .int .i64 a3, .int .i64 a4, .int .i64 a5, .int .i64 a6, .int .i64 a7, .int .i64 a8, .int .i64 a9], .slice A1 l1.length c1] w fun e w' => e = .returned (.bool true) ∧ Below w.heap.size w w' := by
  have hu := Try.underlying31
  have hu25 := Try.underlying25
  have hz := Fi.zero
  have HB := Aside0.mk (Below.refl w.heap.size w)
  have HPX := Aside0.mk (Fi.new_P hP)
  have HNE := Aside0.mk (show (if BankP a0 a1 a2 a3 a4 a5 a6 a7 a8 a9 then (0 : Int) else 11) = 0 from if_pos hP)
  obtain ⟨xn, hxn⟩ : ∃ x, Fi.new a0 a1 a2 a3 a4 a5 a6 a7 a8 a9 = x := ⟨_, rfl⟩
  rw [hxn] at d1 HPX
  have HXN := Aside0.mk hxn
  have HLN := Aside0.mk (show xn.f1.length ≤ 140737488351232 ∧ xn.f2.length ≤ 140737488351232 ∧ xn.f3.length ≤ 140737488351232 ∧ xn.f4.length ≤ 140737488351232 from by have h9 := Fi.P_Fit HPX.out; unfold Fi.Fit at h9; omega)
  clear hP hxn HPX
  go_enter Try.func3, Try.ntmps3
  go_wp2_with (first
    | ((with_reducible refine gate_dst (N := 2) rfl ?_); refine box_event ?hg (N := 2) ?hd (cs := #[.int .i64 a0, .int .i64 a1, .int .i64 a2, .int .i64 a3, .int .i64 a4, .int .i64 a5, .int .i64 a6, .int .i64 a7, .int .i64 a8, .int .i64 a9]) (t := 25) ?hr ?_; (case hd => rfl); (case hg => rfl); (case hr => first | (go_simp; done) | (go_simp; rfl)); intro gb hg w1 hbox hb; have GEgb := Aside0.mk ((by rw [hg]; exact HB.out.size) : w.heap.size ≤ gb); have BKgb := Aside0.mk hbox; clear hbox hg; have n0_ := Aside0.mk (below_step HB.out hb); clear HB; have HB := n0_; clear n0_; skip; clear hb)
    | ((with_reducible refine gate_dst (N := 23) rfl ?_); refine wpList_load_row rfl 25 _ rfl gb rfl 25 _ (0, 0) _ BKgb.out hu25 rfl (by kernel_rfl) ?_)
    | (go_at_call 8; (with_reducible refine (Fi.cnewE HXN.out HNE.out).mono ?_); rintro r w2 ⟨csf, rfl, hN, hb⟩; have HNf := Aside0.mk (Fi.N_lower hN HB.out.size); clear hN; clear BKgb; have n0_ := Aside0.mk (below_step HB.out hb); clear HB; have HB := n0_; clear n0_; clear hb)
    | ((with_reducible refine gate_dst (N := 5) rfl ?_); refine box_event ?hg (N := 5) ?hd (cs := Fi.Z) (t := 31) ?hr ?_; (case hd => rfl); (case hg => rfl); (case hr => first | (go_simp; done) | (go_simp; rfl)); intro g5 hg w3 hbox hb; have GX := Aside0.mk (Nat.le_of_eq hg.symm); have HX := Aside0.mk hb; have BKg5 := Aside0.mk hbox; clear hg hbox hb)
    | ((with_reducible refine gate_store rfl ?_); refine Fi.store_row rfl 31 _ _ rfl g5 csf rfl rfl 31 _ BKg5.out (by rw [Fi.V_size HNf.out.V]; exact Fi.size) (by rw [Fi.V_size HNf.out.V]; rfl) (Fi.V_one HNf.out.V) ?_; intro w4 hgb hgr; have hb := HX.out.grown hgr HX.out.size (fun k hk => by cases hk; exact GX.out); have n0_ := Aside0.mk (below_step HB.out hb); have n1_ := Aside0.mk (Fi.N_below HNf.out hb); clear HB HNf; have HB := n0_; have HNf := n1_; clear n0_ n1_; clear BKg5 GX HX hb hgr; have BKg5 := Aside0.mk hgb; clear hgb)
    | ((with_reducible refine gate_dst (N := 30) rfl ?_); refine gate_guard (by rfl) ?_; dsimp only; refine wpList_load_row rfl 31 _ rfl g5 rfl 31 _ (0, 0) _ BKg5.out hu rfl (by rw [Fi.V_size HNf.out.V]; exact Fi.size) ?_)
    | (go_at_call 9; (with_reducible refine (Fi.few HNf.out.V HLN.out d1).mono ?_); rintro r w5 ⟨rfl, hb⟩; have n0_ := Aside0.mk (below_step HB.out hb); have n1_ := Aside0.mk (Fi.N_below HNf.out hb); have n2_ := Aside0.mk (blk_below BKg5.out hb); clear HB HNf BKg5; have HB := n0_; have HNf := n1_; have BKg5 := n2_; clear n0_ n1_ n2_; skip; clear hb)
    | (go_at_call 7; (with_reducible refine (Fi.sure).mono ?_); rintro r w9 ⟨rfl, hb⟩; have n0_ := Aside0.mk (below_step HB.out hb); clear HB; have HB := n0_; clear n0_; skip; clear hb))
  go_ret
  exact ⟨rfl, HB.out⟩

end Go.Proofs.Ytamcpmfimicnjaa.P
