import Derived.Test.YtamcpmfimicnjaaX
import Derived.Test.YtamcpmfimicnjaaFr0
import Derived.Test.YtamcpmfimicnjaaFb
import Derived.Test.YtamcpmfimicnjaaFe
import Derived.Test.YtamcpmfimicnjaaFf
import Derived.Test.YtamcpmfimicnjaaLFile
namespace Go.Proofs.Ytamcpmfimicnjaa.P
open Go.RowKit Go.Proofs.YtamcpmfimicnjaaW.PrintWords Go.Proofs.YtamcpmfimicnjaaW.PrintLast Go.Proofs.YtamcpmfimicnjaaW.PrintMore
attribute [local go_sem] max2_int min2_int max_two min_two max_three min_three max_four min_four   -- for this text's walks alone
set_option linter.unusedVariables false
set_option linter.unusedSimpArgs false
open Go.Proofs.Ytamcpmfimicnjaa.L

set_option maxHeartbeats 4000000 in
set_option maxRecDepth 100000 in
theorem Fi.rsetBits {w : World} {bb : Nat} {cs : Array Value} {x : S31} (h : Fi.N w bb cs x) (hbb : bb ≤ w.heap.size) {A : Option Addr} {c : Nat} {m : List Bool} (hr : Kd.bool.C w A m.length m) (hc : m.length ≤ c) {p : Int} (hp0 : I64 p) : Calls Try.prog 42 #[.agg cs, .int .i64 p, .slice A m.length c] w fun e w' => ∃ cs', e = .returned (.tuple #[.agg cs', .int .i64 (Fi.setBits x p m).2]) ∧ Fi.N w' bb cs' (Fi.setBits x p m).1 ∧ Below w.heap.size w w' := by
  obtain ⟨⟨⟨a0, a1⟩, ⟨a2, a3⟩, ⟨a4, a5⟩, ⟨a6, a7⟩, ⟨a8, a9⟩⟩, l1, l2, l3, l4⟩ := x
  have HV := Aside0.mk h.V
  obtain ⟨v10, v11, v12, v13, ecs, o10, o11, o12, o13⟩ := Fi.openN h
  obtain ⟨A10, c10, ev10⟩ := Kd.R_slice o10
  subst ev10
  obtain ⟨A11, c11, ev11⟩ := Kd.R_slice o11
  subst ev11
  obtain ⟨A12, c12, ev12⟩ := Kd.R_slice o12
  subst ev12
  obtain ⟨A13, c13, ev13⟩ := Kd.R_slice o13
  subst ev13
  subst ecs
  have R10 := Aside0.mk (show Kd.bool.R 4 w bb (fun _ => True) (.slice A10 l1.length c10) l1 from o10)
  have K10 := Aside0.mk (Kd.R_reads' R10.out).2.1
  have G10 := Aside0.mk (Kd.R_reads' R10.out).2.2
  have R11 := Aside0.mk (show Kd.bool.R 4 w bb (fun _ => True) (.slice A11 l2.length c11) l2 from o11)
  have K11 := Aside0.mk (Kd.R_reads' R11.out).2.1
  have G11 := Aside0.mk (Kd.R_reads' R11.out).2.2
  have R12 := Aside0.mk (show (Kd.int .u16).R 53 w bb (fun _ => True) (.slice A12 l3.length c12) l3 from o12)
  have K12 := Aside0.mk (Kd.R_reads' R12.out).2.1
  have G12 := Aside0.mk (Kd.R_reads' R12.out).2.2
  have R13 := Aside0.mk (show (Kd.int .u16).R 53 w bb (fun _ => True) (.slice A13 l4.length c13) l4 from o13)
  have K13 := Aside0.mk (Kd.R_reads' R13.out).2.1
  have G13 := Aside0.mk (Kd.R_reads' R13.out).2.2
  replace HV : Aside0 (Fi.V w #[.int .i64 a0, .int .i64 a1, .int .i64 a2, .int .i64 a3, .int .i64 a4, .int .i64 a5, .int .i64 a6, .int .i64 a7, .int .i64 a8, .int .i64 a9, .slice A10 l1.length c10, .slice A11 l2.length c11, .slice A12 l3.length c12, .slice A13 l4.length c13] (⟨⟨⟨a0, a1⟩, ⟨a2, a3⟩, ⟨a4, a5⟩, ⟨a6, a7⟩, ⟨a8, a9⟩⟩, l1, l2, l3, l4⟩ : S31)) := HV
  have HBB := Aside0.mk hbb
  clear h hbb o10 o11 o12 o13
  have hu := Try.underlying31
  have hu25 := Try.underlying25
  have hu23 := Try.underlying23
  have hz := Fi.zero
  have HB := Aside0.mk (Below.refl w.heap.size w)
  have hp := Aside0.mk hp0
  have HR := Aside0.mk hr
  have HC := Aside0.mk hc
  clear hp0 hr hc
  by_cases hP : Fi.P (⟨⟨⟨a0, a1⟩, ⟨a2, a3⟩, ⟨a4, a5⟩, ⟨a6, a7⟩, ⟨a8, a9⟩⟩, l1, l2, l3, l4⟩ : S31)
  rotate_left
  · have hd : decide (Fi.P (⟨⟨⟨a0, a1⟩, ⟨a2, a3⟩, ⟨a4, a5⟩, ⟨a6, a7⟩, ⟨a8, a9⟩⟩, l1, l2, l3, l4⟩ : S31)) = false := decide_eq_false hP
    rw [show Fi.setBits (⟨⟨⟨a0, a1⟩, ⟨a2, a3⟩, ⟨a4, a5⟩, ⟨a6, a7⟩, ⟨a8, a9⟩⟩, l1, l2, l3, l4⟩ : S31) p m = (z31, 11) from if_neg hP]
    clear hP
    go_enter Try.func42, Try.ntmps42
    go_wp2_with (first
      | ((with_reducible refine gate_dst (N := 3) rfl ?_); refine box_event ?hg (N := 3) ?hd (cs := #[.int .i64 a0, .int .i64 a1, .int .i64 a2, .int .i64 a3, .int .i64 a4, .int .i64 a5, .int .i64 a6, .int .i64 a7, .int .i64 a8, .int .i64 a9, .slice A10 l1.length c10, .slice A11 l2.length c11, .slice A12 l3.length c12, .slice A13 l4.length c13]) (t := 31) ?hr ?_; (case hd => rfl); (case hg => rfl); (case hr => first | (go_simp; done) | (go_simp; rfl)); intro g hg w1 hbox hb; have GEg := Aside0.mk ((by rw [hg]; exact HB.out.size) : w.heap.size ≤ g); have BKg := Aside0.mk hbox; clear hbox hg; have n0_ := Aside0.mk (below_step HB.out hb); clear HB; have HB := n0_; clear n0_; skip; clear hb)
      | ((with_reducible refine gate_dst (N := 6) rfl ?_); refine box_event ?hg (N := 6) ?hd (cs := #[.int .i64 0, .int .i64 0, .int .i64 0, .int .i64 0, .int .i64 0, .int .i64 0, .int .i64 0, .int .i64 0, .int .i64 0, .int .i64 0, .slice none 0 0, .slice none 0 0, .slice none 0 0, .slice none 0 0]) (t := 31) ?hr ?_; (case hd => rfl); (case hg => rfl); (case hr => first | (go_simp; done) | (go_simp; rfl)); intro b hg w1b hbox hb; have NB := Aside0.mk (show g ≠ b by rw [hg]; exact Nat.ne_of_lt (blk_lt BKg.out)); have GEb := Aside0.mk ((by rw [hg]; exact HB.out.size) : w.heap.size ≤ b); have BKb := Aside0.mk hbox; clear hbox hg; have n0_ := Aside0.mk (below_step HB.out hb); have n1_ := Aside0.mk (blk_below BKg.out hb); clear HB BKg; have HB := n0_; have BKg := n1_; clear n0_ n1_; skip; clear hb)
      | (refine wpList_load_row rfl 31 _ rfl g rfl 31 _ (0, 0) _ BKg.out hu rfl Fi.size ?_)
      | (go_at_call 21; (with_reducible refine (Fi.rright14 (Fi.V_below HV.out HB.out) hd).mono ?_); rintro r w2 ⟨rfl, hb⟩; have n0_ := Aside0.mk (below_step HB.out hb); have n1_ := Aside0.mk (blk_below BKg.out hb); have n2_ := Aside0.mk (blk_below BKb.out hb); clear HB BKg BKb; have HB := n0_; have BKg := n1_; have BKb := n2_; clear n0_ n1_ n2_; clear hb)
      | ((with_reducible refine gate_dst (N := 13) rfl ?_); refine Fi.load_hide2 rfl (.agg Fi.Z) ?hr ?_; (case hr => first | (go_simp; done) | (go_simp; rfl)); intro u hu_; have HU := Aside0.mk hu_; clear hu_)
      | ((with_reducible refine gate_store rfl ?_); refine Fi.store_row rfl 31 _ _ rfl b Fi.Z rfl HU.out 31 _ BKb.out (by kernel_rfl) rfl (by first | kernel_rfl | simp [Value.oneCell']) ?_; intro w9 hg9 hgr; have n1_ := Aside0.mk (HB.out.grown hgr HB.out.size (fun k hk => by cases hk; exact GEb.out)); clear HB BKb; have HB := n1_; have BKb := Aside0.mk hg9; clear n1_ hg9 hgr))
    refine bodyPost_ret (results_ct rfl _ _ b 31 Fi.Z (0, 0) _ rfl BKb.out hu rfl (by kernel_rfl)) rfl ?_
    exact ⟨_, rfl, Fi.N_zero _ _, HB.out⟩
  have hd : decide (Fi.P (⟨⟨⟨a0, a1⟩, ⟨a2, a3⟩, ⟨a4, a5⟩, ⟨a6, a7⟩, ⟨a8, a9⟩⟩, l1, l2, l3, l4⟩ : S31)) = true := decide_eq_true hP
  obtain ⟨L, E, HE0⟩ : ∃ L E, writeS a0 a1 l1 p m = (L, E) := ⟨_, _, rfl⟩
  rw [show Fi.setBits (⟨⟨⟨a0, a1⟩, ⟨a2, a3⟩, ⟨a4, a5⟩, ⟨a6, a7⟩, ⟨a8, a9⟩⟩, l1, l2, l3, l4⟩ : S31) p m = (if E = 0 then ((⟨⟨⟨a0, a1⟩, ⟨a2, a3⟩, ⟨a4, a5⟩, ⟨a6, a7⟩, ⟨a8, a9⟩⟩, L, l2, l3, l4⟩ : S31), 0) else (z31, E)) from by
    unfold Fi.setBits
    rw [if_pos hP]
    simp only [HE0]]
  have HE := Aside0.mk HE0
  clear HE0 hP
  by_cases hE : E = 0
  · subst hE
    rw [if_pos rfl]
    go_enter Try.func42, Try.ntmps42
    go_wp2_with (first
      | ((with_reducible refine gate_dst (N := 3) rfl ?_); refine box_event ?hg (N := 3) ?hd (cs := #[.int .i64 a0, .int .i64 a1, .int .i64 a2, .int .i64 a3, .int .i64 a4, .int .i64 a5, .int .i64 a6, .int .i64 a7, .int .i64 a8, .int .i64 a9, .slice A10 l1.length c10, .slice A11 l2.length c11, .slice A12 l3.length c12, .slice A13 l4.length c13]) (t := 31) ?hr ?_; (case hd => rfl); (case hg => rfl); (case hr => first | (go_simp; done) | (go_simp; rfl)); intro g hg w1 hbox hb; have GEg := Aside0.mk ((by rw [hg]; exact HB.out.size) : w.heap.size ≤ g); have BKg := Aside0.mk hbox; clear hbox hg; have n0_ := Aside0.mk (below_step HB.out hb); clear HB; have HB := n0_; clear n0_; skip; clear hb)
      | ((with_reducible refine gate_dst (N := 6) rfl ?_); refine box_event ?hg (N := 6) ?hd (cs := #[.int .i64 0, .int .i64 0, .int .i64 0, .int .i64 0, .int .i64 0, .int .i64 0, .int .i64 0, .int .i64 0, .int .i64 0, .int .i64 0, .slice none 0 0, .slice none 0 0, .slice none 0 0, .slice none 0 0]) (t := 31) ?hr ?_; (case hd => rfl); (case hg => rfl); (case hr => first | (go_simp; done) | (go_simp; rfl)); intro b hg w1b hbox hb; have NB := Aside0.mk (show g ≠ b by rw [hg]; exact Nat.ne_of_lt (blk_lt BKg.out)); have GEb := Aside0.mk ((by rw [hg]; exact HB.out.size) : w.heap.size ≤ b); have BKb := Aside0.mk hbox; clear hbox hg; have n0_ := Aside0.mk (below_step HB.out hb); have n1_ := Aside0.mk (blk_below BKg.out hb); clear HB BKg; have HB := n0_; have BKg := n1_; clear n0_ n1_; skip; clear hb)
      | ((with_reducible refine gate_dst (N := 31) rfl ?_); have hz := Fi.grown_set w3 g 10 (.slice Av L.length cv); have m1 : (w3.setCell ⟨g, 10, none⟩ (.slice Av L.length cv)).heap[g]? = some (.cells #[.int .i64 a0, .int .i64 a1, .int .i64 a2, .int .i64 a3, .int .i64 a4, .int .i64 a5, .int .i64 a6, .int .i64 a7, .int .i64 a8, .int .i64 a9, .slice Av L.length cv, .slice A11 l2.length c11, .slice A12 l3.length c12, .slice A13 l4.length c13] 31 (0, 0)) := blk_put BKg.out 10 _ rfl; have m2 := blk_grown BKb.out hz (fun he => NB.out (Option.some.inj he).symm); have m3 := HB.out.grown hz HB.out.size (fun k hk => by cases hk; exact GEg.out); have m4 := Kd.R_mono (ok' := fun _ => True) (Kd.R_grown (Kd.R_bound HO.out) hz (fun k hk he => by have h1 := hk.2.1; have h2 := HLG.out; cases he; exact absurd h1 (Nat.not_le_of_lt h2))) (fun _ _ => trivial); generalize (w3.setCell ⟨g, 10, none⟩ (.slice Av L.length cv)) = w5 at m1 m2 m3 m4 ⊢; clear hz BKg BKb HB HO; have BKg := Aside0.mk m1; have BKb := Aside0.mk m2; have HB := Aside0.mk m3; have HO := Aside0.mk m4; clear m1 m2 m3 m4; refine wpList_load_row rfl 31 _ rfl g rfl 31 _ (0, 0) _ BKg.out hu rfl Fi.size ?_)
      | (refine wpList_load_row rfl 31 _ rfl g rfl 31 _ (0, 0) _ BKg.out hu rfl Fi.size ?_)
      | (go_at_call 21; (with_reducible refine (Fi.rright14 (Fi.V_below HV.out HB.out) hd).mono ?_); rintro r w2 ⟨rfl, hb⟩; have n0_ := Aside0.mk (below_step HB.out hb); have n1_ := Aside0.mk (blk_below BKg.out hb); have n2_ := Aside0.mk (blk_below BKb.out hb); clear HB BKg BKb; have HB := n0_; have BKg := n1_; have BKb := n2_; clear n0_ n1_ n2_; have cg_0 : w2.cell? ⟨g, 0, none⟩ = some (.int .i64 a0) := (blk_cell BKg.out 0).trans rfl; have cg_1 : w2.cell? ⟨g, 1, none⟩ = some (.int .i64 a1) := (blk_cell BKg.out 1).trans rfl; have cg_10 : w2.cell? ⟨g, 10, none⟩ = some (.slice A10 l1.length c10) := (blk_cell BKg.out 10).trans rfl; clear hb)
      | (go_at_call 60; (have HLG := Aside0.mk (blk_lt BKg.out)); (have HLB := Aside0.mk (blk_lt BKb.out)); (have HLO := Aside0.mk HB.out.size); (with_reducible refine (Fi.rputB (Kd.C_below G10.out HB.out) K10.out (Kd.C_below HR.out HB.out) HC.out hp.out HE.out).mono ?_); rintro r w3 ⟨v, rfl, ho, hb⟩; obtain ⟨Av, cv, ev⟩ := Kd.R_slice ho; subst ev; have HO := Aside0.mk ho; clear ho; have n0_ := Aside0.mk (below_step HB.out hb); have n1_ := Aside0.mk (blk_below BKg.out hb); have n2_ := Aside0.mk (blk_below BKb.out hb); clear HB BKg BKb; have HB := n0_; have BKg := n1_; have BKb := n2_; clear n0_ n1_ n2_; have cg_10 : w3.cell? ⟨g, 10, none⟩ = some (.slice A10 l1.length c10) := (blk_cell BKg.out 10).trans rfl; have fg_10 := blk_frozen BKg.out 10; clear hb)
      | ((with_reducible refine gate_store rfl ?_); refine Fi.store_row rfl 31 _ _ rfl b #[.int .i64 a0, .int .i64 a1, .int .i64 a2, .int .i64 a3, .int .i64 a4, .int .i64 a5, .int .i64 a6, .int .i64 a7, .int .i64 a8, .int .i64 a9, .slice Av L.length cv, .slice A11 l2.length c11, .slice A12 l3.length c12, .slice A13 l4.length c13] rfl rfl 31 _ BKb.out (by kernel_rfl) rfl (by first | kernel_rfl | simp [Value.oneCell']) ?_; intro w9 hg9 hgr; have n1_ := Aside0.mk (HB.out.grown hgr HB.out.size (fun k hk => by cases hk; exact GEb.out)); have n2_ := Aside0.mk (Kd.R_mono (ok' := fun _ => True) (Kd.R_grown (Kd.R_bound HO.out) hgr (fun k hk he => by have h1 := hk.2.1; have h2 := HLB.out; cases he; exact absurd h1 (Nat.not_le_of_lt h2))) (fun _ _ => trivial)); clear HB BKb HO; have HB := n1_; have HO := n2_; have BKb := Aside0.mk hg9; clear n1_ n2_ hg9 hgr))
    refine bodyPost_ret (results_ct rfl _ _ b 31 #[.int .i64 a0, .int .i64 a1, .int .i64 a2, .int .i64 a3, .int .i64 a4, .int .i64 a5, .int .i64 a6, .int .i64 a7, .int .i64 a8, .int .i64 a9, .slice Av L.length cv, .slice A11 l2.length c11, .slice A12 l3.length c12, .slice A13 l4.length c13] (0, 0) _ rfl BKb.out hu rfl (by kernel_rfl)) rfl ?_
    exact ⟨_, rfl, k31_mkM _ _ (fun _ => True) (⟨⟨⟨a0, a1⟩, ⟨a2, a3⟩, ⟨a4, a5⟩, ⟨a6, a7⟩, ⟨a8, a9⟩⟩, L, l2, l3, l4⟩ : S31) (Kd.R_lower HO.out (Nat.le_trans HBB.out HLO.out)) (Kd.R_below R11.out HB.out) (Kd.R_below R12.out HB.out) (Kd.R_below R13.out HB.out), HB.out⟩
  · rw [if_neg hE]
    have hq : (E == 0) = false := by simpa using hE
    have hq2 : (E != 0) = true := by simpa using hE
    clear hE
    go_enter Try.func42, Try.ntmps42
    go_wp2_with (first
      | ((with_reducible refine gate_dst (N := 3) rfl ?_); refine box_event ?hg (N := 3) ?hd (cs := #[.int .i64 a0, .int .i64 a1, .int .i64 a2, .int .i64 a3, .int .i64 a4, .int .i64 a5, .int .i64 a6, .int .i64 a7, .int .i64 a8, .int .i64 a9, .slice A10 l1.length c10, .slice A11 l2.length c11, .slice A12 l3.length c12, .slice A13 l4.length c13]) (t := 31) ?hr ?_; (case hd => rfl); (case hg => rfl); (case hr => first | (go_simp; done) | (go_simp; rfl)); intro g hg w1 hbox hb; have GEg := Aside0.mk ((by rw [hg]; exact HB.out.size) : w.heap.size ≤ g); have BKg := Aside0.mk hbox; clear hbox hg; have n0_ := Aside0.mk (below_step HB.out hb); clear HB; have HB := n0_; clear n0_; skip; clear hb)
      | ((with_reducible refine gate_dst (N := 6) rfl ?_); refine box_event ?hg (N := 6) ?hd (cs := #[.int .i64 0, .int .i64 0, .int .i64 0, .int .i64 0, .int .i64 0, .int .i64 0, .int .i64 0, .int .i64 0, .int .i64 0, .int .i64 0, .slice none 0 0, .slice none 0 0, .slice none 0 0, .slice none 0 0]) (t := 31) ?hr ?_; (case hd => rfl); (case hg => rfl); (case hr => first | (go_simp; done) | (go_simp; rfl)); intro b hg w1b hbox hb; have NB := Aside0.mk (show g ≠ b by rw [hg]; exact Nat.ne_of_lt (blk_lt BKg.out)); have GEb := Aside0.mk ((by rw [hg]; exact HB.out.size) : w.heap.size ≤ b); have BKb := Aside0.mk hbox; clear hbox hg; have n0_ := Aside0.mk (below_step HB.out hb); have n1_ := Aside0.mk (blk_below BKg.out hb); clear HB BKg; have HB := n0_; have BKg := n1_; clear n0_ n1_; skip; clear hb)
      | (refine wpList_load_row rfl 31 _ rfl g rfl 31 _ (0, 0) _ BKg.out hu rfl Fi.size ?_)
      | (go_at_call 21; (with_reducible refine (Fi.rright14 (Fi.V_below HV.out HB.out) hd).mono ?_); rintro r w2 ⟨rfl, hb⟩; have n0_ := Aside0.mk (below_step HB.out hb); have n1_ := Aside0.mk (blk_below BKg.out hb); have n2_ := Aside0.mk (blk_below BKb.out hb); clear HB BKg BKb; have HB := n0_; have BKg := n1_; have BKb := n2_; clear n0_ n1_ n2_; have cg_0 : w2.cell? ⟨g, 0, none⟩ = some (.int .i64 a0) := (blk_cell BKg.out 0).trans rfl; have cg_1 : w2.cell? ⟨g, 1, none⟩ = some (.int .i64 a1) := (blk_cell BKg.out 1).trans rfl; have cg_10 : w2.cell? ⟨g, 10, none⟩ = some (.slice A10 l1.length c10) := (blk_cell BKg.out 10).trans rfl; clear hb)
      | (go_at_call 60; (have HLG := Aside0.mk (blk_lt BKg.out)); (have HLB := Aside0.mk (blk_lt BKb.out)); (have HLO := Aside0.mk HB.out.size); (with_reducible refine (Fi.rputB (Kd.C_below G10.out HB.out) K10.out (Kd.C_below HR.out HB.out) HC.out hp.out HE.out).mono ?_); rintro r w3 ⟨v, rfl, ho, hb⟩; obtain ⟨Av, cv, ev⟩ := Kd.R_slice ho; subst ev; have HO := Aside0.mk ho; clear ho; have n0_ := Aside0.mk (below_step HB.out hb); have n1_ := Aside0.mk (blk_below BKg.out hb); have n2_ := Aside0.mk (blk_below BKb.out hb); clear HB BKg BKb; have HB := n0_; have BKg := n1_; have BKb := n2_; clear n0_ n1_ n2_; have cg_10 : w3.cell? ⟨g, 10, none⟩ = some (.slice A10 l1.length c10) := (blk_cell BKg.out 10).trans rfl; have fg_10 := blk_frozen BKg.out 10; clear hb)
      | ((with_reducible refine gate_dst (N := 27) rfl ?_); refine Fi.load_hide2 rfl (.agg Fi.Z) ?hr ?_; (case hr => first | (go_simp; done) | (go_simp; rfl)); intro u hu_; have HU := Aside0.mk hu_; clear hu_)
      | ((with_reducible refine gate_store rfl ?_); refine Fi.store_row rfl 31 _ _ rfl b Fi.Z rfl HU.out 31 _ BKb.out (by kernel_rfl) rfl (by first | kernel_rfl | simp [Value.oneCell']) ?_; intro w9 hg9 hgr; have n1_ := Aside0.mk (HB.out.grown hgr HB.out.size (fun k hk => by cases hk; exact GEb.out)); clear HB BKb; have HB := n1_; have BKb := Aside0.mk hg9; clear n1_ hg9 hgr))
    refine bodyPost_ret (results_ct rfl _ _ b 31 Fi.Z (0, 0) _ rfl BKb.out hu rfl (by kernel_rfl)) rfl ?_
    exact ⟨_, rfl, Fi.N_zero _ _, HB.out⟩
set_option maxHeartbeats 4000000 in
set_option maxRecDepth 100000 in
theorem Fi.rsetWords {w : World} {bb : Nat} {cs : Array Value} {x : S31} (h : Fi.N w bb cs x) (hbb : bb ≤ w.heap.size) {A : Option Addr} {c : Nat} {m : List Int} (hr : (Kd.int .u16).C w A m.length m) (hc : m.length ≤ c) {p : Int} (hp0 : I64 p) : Calls Try.prog 43 #[.agg cs, .int .i64 p, .slice A m.length c] w fun e w' => ∃ cs', e = .returned (.tuple #[.agg cs', .int .i64 (Fi.setWords x p m).2]) ∧ Fi.N w' bb cs' (Fi.setWords x p m).1 ∧ Below w.heap.size w w' := by
  obtain ⟨⟨⟨a0, a1⟩, ⟨a2, a3⟩, ⟨a4, a5⟩, ⟨a6, a7⟩, ⟨a8, a9⟩⟩, l1, l2, l3, l4⟩ := x
  have HV := Aside0.mk h.V
  obtain ⟨v10, v11, v12, v13, ecs, o10, o11, o12, o13⟩ := Fi.openN h
  obtain ⟨A10, c10, ev10⟩ := Kd.R_slice o10
  subst ev10
  obtain ⟨A11, c11, ev11⟩ := Kd.R_slice o11
  subst ev11
  obtain ⟨A12, c12, ev12⟩ := Kd.R_slice o12
  subst ev12
  obtain ⟨A13, c13, ev13⟩ := Kd.R_slice o13
  subst ev13
  subst ecs
  have R10 := Aside0.mk (show Kd.bool.R 4 w bb (fun _ => True) (.slice A10 l1.length c10) l1 from o10)
  have K10 := Aside0.mk (Kd.R_reads' R10.out).2.1
  have G10 := Aside0.mk (Kd.R_reads' R10.out).2.2
  have R11 := Aside0.mk (show Kd.bool.R 4 w bb (fun _ => True) (.slice A11 l2.length c11) l2 from o11)
  have K11 := Aside0.mk (Kd.R_reads' R11.out).2.1
  have G11 := Aside0.mk (Kd.R_reads' R11.out).2.2
  have R12 := Aside0.mk (show (Kd.int .u16).R 53 w bb (fun _ => True) (.slice A12 l3.length c12) l3 from o12)
  have K12 := Aside0.mk (Kd.R_reads' R12.out).2.1
  have G12 := Aside0.mk (Kd.R_reads' R12.out).2.2
  have R13 := Aside0.mk (show (Kd.int .u16).R 53 w bb (fun _ => True) (.slice A13 l4.length c13) l4 from o13)
  have K13 := Aside0.mk (Kd.R_reads' R13.out).2.1
  have G13 := Aside0.mk (Kd.R_reads' R13.out).2.2
  replace HV : Aside0 (Fi.V w #[.int .i64 a0, .int .i64 a1, .int .i64 a2, .int .i64 a3, .int .i64 a4, .int .i64 a5, .int .i64 a6, .int .i64 a7, .int .i64 a8, .int .i64 a9, .slice A10 l1.length c10, .slice A11 l2.length c11, .slice A12 l3.length c12, .slice A13 l4.length c13] (⟨⟨⟨a0, a1⟩, ⟨a2, a3⟩, ⟨a4, a5⟩, ⟨a6, a7⟩, ⟨a8, a9⟩⟩, l1, l2, l3, l4⟩ : S31)) := HV
  have HBB := Aside0.mk hbb
  clear h hbb o10 o11 o12 o13
  have hu := Try.underlying31
  have hu25 := Try.underlying25
  have hu23 := Try.underlying23
  have hz := Fi.zero
  have HB := Aside0.mk (Below.refl w.heap.size w)
  have hp := Aside0.mk hp0
  have HR := Aside0.mk hr
  have HC := Aside0.mk hc
  have hmm := Aside0.mk (show I64 (m.length : Int) from ⟨by omega, by have := hr.2.1; omega⟩)
  clear hp0 hr hc
  by_cases hP : Fi.P (⟨⟨⟨a0, a1⟩, ⟨a2, a3⟩, ⟨a4, a5⟩, ⟨a6, a7⟩, ⟨a8, a9⟩⟩, l1, l2, l3, l4⟩ : S31)
  rotate_left
  · have hd : decide (Fi.P (⟨⟨⟨a0, a1⟩, ⟨a2, a3⟩, ⟨a4, a5⟩, ⟨a6, a7⟩, ⟨a8, a9⟩⟩, l1, l2, l3, l4⟩ : S31)) = false := decide_eq_false hP
    rw [show Fi.setWords (⟨⟨⟨a0, a1⟩, ⟨a2, a3⟩, ⟨a4, a5⟩, ⟨a6, a7⟩, ⟨a8, a9⟩⟩, l1, l2, l3, l4⟩ : S31) p m = (z31, 11) from if_neg hP]
    clear hP
    go_enter Try.func43, Try.ntmps43
    go_wp2_with (first
      | ((with_reducible refine gate_dst (N := 3) rfl ?_); refine box_event ?hg (N := 3) ?hd (cs := #[.int .i64 a0, .int .i64 a1, .int .i64 a2, .int .i64 a3, .int .i64 a4, .int .i64 a5, .int .i64 a6, .int .i64 a7, .int .i64 a8, .int .i64 a9, .slice A10 l1.length c10, .slice A11 l2.length c11, .slice A12 l3.length c12, .slice A13 l4.length c13]) (t := 31) ?hr ?_; (case hd => rfl); (case hg => rfl); (case hr => first | (go_simp; done) | (go_simp; rfl)); intro g hg w1 hbox hb; have GEg := Aside0.mk ((by rw [hg]; exact HB.out.size) : w.heap.size ≤ g); have BKg := Aside0.mk hbox; clear hbox hg; have n0_ := Aside0.mk (below_step HB.out hb); clear HB; have HB := n0_; clear n0_; skip; clear hb)
      | ((with_reducible refine gate_dst (N := 6) rfl ?_); refine box_event ?hg (N := 6) ?hd (cs := #[.int .i64 0, .int .i64 0, .int .i64 0, .int .i64 0, .int .i64 0, .int .i64 0, .int .i64 0, .int .i64 0, .int .i64 0, .int .i64 0, .slice none 0 0, .slice none 0 0, .slice none 0 0, .slice none 0 0]) (t := 31) ?hr ?_; (case hd => rfl); (case hg => rfl); (case hr => first | (go_simp; done) | (go_simp; rfl)); intro b hg w1b hbox hb; have NB := Aside0.mk (show g ≠ b by rw [hg]; exact Nat.ne_of_lt (blk_lt BKg.out)); have GEb := Aside0.mk ((by rw [hg]; exact HB.out.size) : w.heap.size ≤ b); have BKb := Aside0.mk hbox; clear hbox hg; have n0_ := Aside0.mk (below_step HB.out hb); have n1_ := Aside0.mk (blk_below BKg.out hb); clear HB BKg; have HB := n0_; have BKg := n1_; clear n0_ n1_; skip; clear hb)
      | (refine wpList_load_row rfl 31 _ rfl g rfl 31 _ (0, 0) _ BKg.out hu rfl Fi.size ?_)
      | (go_at_call 21; (with_reducible refine (Fi.rright14 (Fi.V_below HV.out HB.out) hd).mono ?_); rintro r w2 ⟨rfl, hb⟩; have n0_ := Aside0.mk (below_step HB.out hb); have n1_ := Aside0.mk (blk_below BKg.out hb); have n2_ := Aside0.mk (blk_below BKb.out hb); clear HB BKg BKb; have HB := n0_; have BKg := n1_; have BKb := n2_; clear n0_ n1_ n2_; clear hb)
      | ((with_reducible refine gate_dst (N := 13) rfl ?_); refine Fi.load_hide2 rfl (.agg Fi.Z) ?hr ?_; (case hr => first | (go_simp; done) | (go_simp; rfl)); intro u hu_; have HU := Aside0.mk hu_; clear hu_)
      | ((with_reducible refine gate_store rfl ?_); refine Fi.store_row rfl 31 _ _ rfl b Fi.Z rfl HU.out 31 _ BKb.out (by kernel_rfl) rfl (by first | kernel_rfl | simp [Value.oneCell']) ?_; intro w9 hg9 hgr; have n1_ := Aside0.mk (HB.out.grown hgr HB.out.size (fun k hk => by cases hk; exact GEb.out)); clear HB BKb; have HB := n1_; have BKb := Aside0.mk hg9; clear n1_ hg9 hgr))
    refine bodyPost_ret (results_ct rfl _ _ b 31 Fi.Z (0, 0) _ rfl BKb.out hu rfl (by kernel_rfl)) rfl ?_
    exact ⟨_, rfl, Fi.N_zero _ _, HB.out⟩
  have hd : decide (Fi.P (⟨⟨⟨a0, a1⟩, ⟨a2, a3⟩, ⟨a4, a5⟩, ⟨a6, a7⟩, ⟨a8, a9⟩⟩, l1, l2, l3, l4⟩ : S31)) = true := decide_eq_true hP
  obtain ⟨L, E, HE0⟩ : ∃ L E, writeS a4 a5 l3 p m = (L, E) := ⟨_, _, rfl⟩
  rw [show Fi.setWords (⟨⟨⟨a0, a1⟩, ⟨a2, a3⟩, ⟨a4, a5⟩, ⟨a6, a7⟩, ⟨a8, a9⟩⟩, l1, l2, l3, l4⟩ : S31) p m = (if E = 0 then (if MeetsP a8 a9 p m.length then (z31, 4) else ((⟨⟨⟨a0, a1⟩, ⟨a2, a3⟩, ⟨a4, a5⟩, ⟨a6, a7⟩, ⟨a8, a9⟩⟩, l1, l2, L, l4⟩ : S31), 0)) else (z31, E)) from by
    unfold Fi.setWords
    rw [if_pos hP]
    simp only [HE0]]
  have HE := Aside0.mk HE0
  clear HE0 hP
  by_cases hE : E = 0
  · subst hE
    rw [if_pos rfl]
    by_cases hM : MeetsP a8 a9 p m.length
    · have hm : decide (MeetsP a8 a9 p m.length) = true := decide_eq_true hM
      rw [if_pos hM]
      clear hM
      go_enter Try.func43, Try.ntmps43
      go_wp2_with (first
        | ((with_reducible refine gate_dst (N := 3) rfl ?_); refine box_event ?hg (N := 3) ?hd (cs := #[.int .i64 a0, .int .i64 a1, .int .i64 a2, .int .i64 a3, .int .i64 a4, .int .i64 a5, .int .i64 a6, .int .i64 a7, .int .i64 a8, .int .i64 a9, .slice A10 l1.length c10, .slice A11 l2.length c11, .slice A12 l3.length c12, .slice A13 l4.length c13]) (t := 31) ?hr ?_; (case hd => rfl); (case hg => rfl); (case hr => first | (go_simp; done) | (go_simp; rfl)); intro g hg w1 hbox hb; have GEg := Aside0.mk ((by rw [hg]; exact HB.out.size) : w.heap.size ≤ g); have BKg := Aside0.mk hbox; clear hbox hg; have n0_ := Aside0.mk (below_step HB.out hb); clear HB; have HB := n0_; clear n0_; skip; clear hb)
        | ((with_reducible refine gate_dst (N := 6) rfl ?_); refine box_event ?hg (N := 6) ?hd (cs := #[.int .i64 0, .int .i64 0, .int .i64 0, .int .i64 0, .int .i64 0, .int .i64 0, .int .i64 0, .int .i64 0, .int .i64 0, .int .i64 0, .slice none 0 0, .slice none 0 0, .slice none 0 0, .slice none 0 0]) (t := 31) ?hr ?_; (case hd => rfl); (case hg => rfl); (case hr => first | (go_simp; done) | (go_simp; rfl)); intro b hg w1b hbox hb; have NB := Aside0.mk (show g ≠ b by rw [hg]; exact Nat.ne_of_lt (blk_lt BKg.out)); have GEb := Aside0.mk ((by rw [hg]; exact HB.out.size) : w.heap.size ≤ b); have BKb := Aside0.mk hbox; clear hbox hg; have n0_ := Aside0.mk (below_step HB.out hb); have n1_ := Aside0.mk (blk_below BKg.out hb); clear HB BKg; have HB := n0_; have BKg := n1_; clear n0_ n1_; skip; clear hb)
        | (refine wpList_load_row rfl 31 _ rfl g rfl 31 _ (0, 0) _ BKg.out hu rfl Fi.size ?_)
        | (go_at_call 21; (with_reducible refine (Fi.rright14 (Fi.V_below HV.out HB.out) hd).mono ?_); rintro r w2 ⟨rfl, hb⟩; have n0_ := Aside0.mk (below_step HB.out hb); have n1_ := Aside0.mk (blk_below BKg.out hb); have n2_ := Aside0.mk (blk_below BKb.out hb); clear HB BKg BKb; have HB := n0_; have BKg := n1_; have BKb := n2_; clear n0_ n1_ n2_; have cg_4 : w2.cell? ⟨g, 4, none⟩ = some (.int .i64 a4) := (blk_cell BKg.out 4).trans rfl; have cg_5 : w2.cell? ⟨g, 5, none⟩ = some (.int .i64 a5) := (blk_cell BKg.out 5).trans rfl; have cg_12 : w2.cell? ⟨g, 12, none⟩ = some (.slice A12 l3.length c12) := (blk_cell BKg.out 12).trans rfl; clear hb)
        | (go_at_call 61; (have HLG := Aside0.mk (blk_lt BKg.out)); (have HLB := Aside0.mk (blk_lt BKb.out)); (have HLO := Aside0.mk HB.out.size); (with_reducible refine (Fi.rputW (Kd.C_below G12.out HB.out) K12.out (Kd.C_below HR.out HB.out) HC.out hp.out HE.out).mono ?_); rintro r w3 ⟨v, rfl, ho, hb⟩; obtain ⟨Av, cv, ev⟩ := Kd.R_slice ho; subst ev; have HO := Aside0.mk ho; clear ho; have n0_ := Aside0.mk (below_step HB.out hb); have n1_ := Aside0.mk (blk_below BKg.out hb); have n2_ := Aside0.mk (blk_below BKb.out hb); clear HB BKg BKb; have HB := n0_; have BKg := n1_; have BKb := n2_; clear n0_ n1_ n2_; have cg_8 : w3.cell? ⟨g, 8, none⟩ = some (.int .i64 a8) := (blk_cell BKg.out 8).trans rfl; have cg_9 : w3.cell? ⟨g, 9, none⟩ = some (.int .i64 a9) := (blk_cell BKg.out 9).trans rfl; have cg_12 : w3.cell? ⟨g, 12, none⟩ = some (.slice A12 l3.length c12) := (blk_cell BKg.out 12).trans rfl; have fg_12 := blk_frozen BKg.out 12; clear hb)
        | (go_at_call 47; (with_reducible refine (Fi.rmeets hp.out hmm.out hm _).mono ?_); rintro r w4 ⟨rfl, hb⟩; have n0_ := Aside0.mk (below_step HB.out hb); have n1_ := Aside0.mk (blk_below BKg.out hb); have n2_ := Aside0.mk (blk_below BKb.out hb); have n3_ := Aside0.mk (Kd.R_below HO.out hb); clear HB BKg BKb HO; have HB := n0_; have BKg := n1_; have BKb := n2_; have HO := n3_; clear n0_ n1_ n2_ n3_; have cg_12 : w4.cell? ⟨g, 12, none⟩ = some (.slice A12 l3.length c12) := (blk_cell BKg.out 12).trans rfl; have fg_12 := blk_frozen BKg.out 12; clear hb)
        | ((with_reducible refine gate_dst (N := 38) rfl ?_); refine Fi.load_hide2 rfl (.agg Fi.Z) ?hr ?_; (case hr => first | (go_simp; done) | (go_simp; rfl)); intro u hu_; have HU := Aside0.mk hu_; clear hu_)
        | ((with_reducible refine gate_store rfl ?_); refine Fi.store_row rfl 31 _ _ rfl b Fi.Z rfl HU.out 31 _ BKb.out (by kernel_rfl) rfl (by first | kernel_rfl | simp [Value.oneCell']) ?_; intro w9 hg9 hgr; have n1_ := Aside0.mk (HB.out.grown hgr HB.out.size (fun k hk => by cases hk; exact GEb.out)); clear HB BKb; have HB := n1_; have BKb := Aside0.mk hg9; clear n1_ hg9 hgr))
      refine bodyPost_ret (results_ct rfl _ _ b 31 Fi.Z (0, 0) _ rfl BKb.out hu rfl (by kernel_rfl)) rfl ?_
      exact ⟨_, rfl, Fi.N_zero _ _, HB.out⟩
    · have hm : decide (MeetsP a8 a9 p m.length) = false := decide_eq_false hM
      rw [if_neg hM]
      clear hM
      go_enter Try.func43, Try.ntmps43
      go_wp2_with (first
        | ((with_reducible refine gate_dst (N := 3) rfl ?_); refine box_event ?hg (N := 3) ?hd (cs := #[.int .i64 a0, .int .i64 a1, .int .i64 a2, .int .i64 a3, .int .i64 a4, .int .i64 a5, .int .i64 a6, .int .i64 a7, .int .i64 a8, .int .i64 a9, .slice A10 l1.length c10, .slice A11 l2.length c11, .slice A12 l3.length c12, .slice A13 l4.length c13]) (t := 31) ?hr ?_; (case hd => rfl); (case hg => rfl); (case hr => first | (go_simp; done) | (go_simp; rfl)); intro g hg w1 hbox hb; have GEg := Aside0.mk ((by rw [hg]; exact HB.out.size) : w.heap.size ≤ g); have BKg := Aside0.mk hbox; clear hbox hg; have n0_ := Aside0.mk (below_step HB.out hb); clear HB; have HB := n0_; clear n0_; skip; clear hb)
        | ((with_reducible refine gate_dst (N := 6) rfl ?_); refine box_event ?hg (N := 6) ?hd (cs := #[.int .i64 0, .int .i64 0, .int .i64 0, .int .i64 0, .int .i64 0, .int .i64 0, .int .i64 0, .int .i64 0, .int .i64 0, .int .i64 0, .slice none 0 0, .slice none 0 0, .slice none 0 0, .slice none 0 0]) (t := 31) ?hr ?_; (case hd => rfl); (case hg => rfl); (case hr => first | (go_simp; done) | (go_simp; rfl)); intro b hg w1b hbox hb; have NB := Aside0.mk (show g ≠ b by rw [hg]; exact Nat.ne_of_lt (blk_lt BKg.out)); have GEb := Aside0.mk ((by rw [hg]; exact HB.out.size) : w.heap.size ≤ b); have BKb := Aside0.mk hbox; clear hbox hg; have n0_ := Aside0.mk (below_step HB.out hb); have n1_ := Aside0.mk (blk_below BKg.out hb); clear HB BKg; have HB := n0_; have BKg := n1_; clear n0_ n1_; skip; clear hb)
        | ((with_reducible refine gate_dst (N := 42) rfl ?_); have hz := Fi.grown_set w4 g 12 (.slice Av L.length cv); have m1 : (w4.setCell ⟨g, 12, none⟩ (.slice Av L.length cv)).heap[g]? = some (.cells #[.int .i64 a0, .int .i64 a1, .int .i64 a2, .int .i64 a3, .int .i64 a4, .int .i64 a5, .int .i64 a6, .int .i64 a7, .int .i64 a8, .int .i64 a9, .slice A10 l1.length c10, .slice A11 l2.length c11, .slice Av L.length cv, .slice A13 l4.length c13] 31 (0, 0)) := blk_put BKg.out 12 _ rfl; have m2 := blk_grown BKb.out hz (fun he => NB.out (Option.some.inj he).symm); have m3 := HB.out.grown hz HB.out.size (fun k hk => by cases hk; exact GEg.out); have m4 := Kd.R_mono (ok' := fun _ => True) (Kd.R_grown (Kd.R_bound HO.out) hz (fun k hk he => by have h1 := hk.2.1; have h2 := HLG.out; cases he; exact absurd h1 (Nat.not_le_of_lt h2))) (fun _ _ => trivial); generalize (w4.setCell ⟨g, 12, none⟩ (.slice Av L.length cv)) = w5 at m1 m2 m3 m4 ⊢; clear hz BKg BKb HB HO; have BKg := Aside0.mk m1; have BKb := Aside0.mk m2; have HB := Aside0.mk m3; have HO := Aside0.mk m4; clear m1 m2 m3 m4; refine wpList_load_row rfl 31 _ rfl g rfl 31 _ (0, 0) _ BKg.out hu rfl Fi.size ?_)
        | (refine wpList_load_row rfl 31 _ rfl g rfl 31 _ (0, 0) _ BKg.out hu rfl Fi.size ?_)
        | (go_at_call 21; (with_reducible refine (Fi.rright14 (Fi.V_below HV.out HB.out) hd).mono ?_); rintro r w2 ⟨rfl, hb⟩; have n0_ := Aside0.mk (below_step HB.out hb); have n1_ := Aside0.mk (blk_below BKg.out hb); have n2_ := Aside0.mk (blk_below BKb.out hb); clear HB BKg BKb; have HB := n0_; have BKg := n1_; have BKb := n2_; clear n0_ n1_ n2_; have cg_4 : w2.cell? ⟨g, 4, none⟩ = some (.int .i64 a4) := (blk_cell BKg.out 4).trans rfl; have cg_5 : w2.cell? ⟨g, 5, none⟩ = some (.int .i64 a5) := (blk_cell BKg.out 5).trans rfl; have cg_12 : w2.cell? ⟨g, 12, none⟩ = some (.slice A12 l3.length c12) := (blk_cell BKg.out 12).trans rfl; clear hb)
        | (go_at_call 61; (have HLG := Aside0.mk (blk_lt BKg.out)); (have HLB := Aside0.mk (blk_lt BKb.out)); (have HLO := Aside0.mk HB.out.size); (with_reducible refine (Fi.rputW (Kd.C_below G12.out HB.out) K12.out (Kd.C_below HR.out HB.out) HC.out hp.out HE.out).mono ?_); rintro r w3 ⟨v, rfl, ho, hb⟩; obtain ⟨Av, cv, ev⟩ := Kd.R_slice ho; subst ev; have HO := Aside0.mk ho; clear ho; have n0_ := Aside0.mk (below_step HB.out hb); have n1_ := Aside0.mk (blk_below BKg.out hb); have n2_ := Aside0.mk (blk_below BKb.out hb); clear HB BKg BKb; have HB := n0_; have BKg := n1_; have BKb := n2_; clear n0_ n1_ n2_; have cg_8 : w3.cell? ⟨g, 8, none⟩ = some (.int .i64 a8) := (blk_cell BKg.out 8).trans rfl; have cg_9 : w3.cell? ⟨g, 9, none⟩ = some (.int .i64 a9) := (blk_cell BKg.out 9).trans rfl; have cg_12 : w3.cell? ⟨g, 12, none⟩ = some (.slice A12 l3.length c12) := (blk_cell BKg.out 12).trans rfl; have fg_12 := blk_frozen BKg.out 12; clear hb)
        | (go_at_call 47; (with_reducible refine (Fi.rmeets hp.out hmm.out hm _).mono ?_); rintro r w4 ⟨rfl, hb⟩; have n0_ := Aside0.mk (below_step HB.out hb); have n1_ := Aside0.mk (blk_below BKg.out hb); have n2_ := Aside0.mk (blk_below BKb.out hb); have n3_ := Aside0.mk (Kd.R_below HO.out hb); clear HB BKg BKb HO; have HB := n0_; have BKg := n1_; have BKb := n2_; have HO := n3_; clear n0_ n1_ n2_ n3_; have cg_12 : w4.cell? ⟨g, 12, none⟩ = some (.slice A12 l3.length c12) := (blk_cell BKg.out 12).trans rfl; have fg_12 := blk_frozen BKg.out 12; clear hb)
        | ((with_reducible refine gate_store rfl ?_); refine Fi.store_row rfl 31 _ _ rfl b #[.int .i64 a0, .int .i64 a1, .int .i64 a2, .int .i64 a3, .int .i64 a4, .int .i64 a5, .int .i64 a6, .int .i64 a7, .int .i64 a8, .int .i64 a9, .slice A10 l1.length c10, .slice A11 l2.length c11, .slice Av L.length cv, .slice A13 l4.length c13] rfl rfl 31 _ BKb.out (by kernel_rfl) rfl (by first | kernel_rfl | simp [Value.oneCell']) ?_; intro w9 hg9 hgr; have n1_ := Aside0.mk (HB.out.grown hgr HB.out.size (fun k hk => by cases hk; exact GEb.out)); have n2_ := Aside0.mk (Kd.R_mono (ok' := fun _ => True) (Kd.R_grown (Kd.R_bound HO.out) hgr (fun k hk he => by have h1 := hk.2.1; have h2 := HLB.out; cases he; exact absurd h1 (Nat.not_le_of_lt h2))) (fun _ _ => trivial)); clear HB BKb HO; have HB := n1_; have HO := n2_; have BKb := Aside0.mk hg9; clear n1_ n2_ hg9 hgr))
      refine bodyPost_ret (results_ct rfl _ _ b 31 #[.int .i64 a0, .int .i64 a1, .int .i64 a2, .int .i64 a3, .int .i64 a4, .int .i64 a5, .int .i64 a6, .int .i64 a7, .int .i64 a8, .int .i64 a9, .slice A10 l1.length c10, .slice A11 l2.length c11, .slice Av L.length cv, .slice A13 l4.length c13] (0, 0) _ rfl BKb.out hu rfl (by kernel_rfl)) rfl ?_
      exact ⟨_, rfl, k31_mkM _ _ (fun _ => True) (⟨⟨⟨a0, a1⟩, ⟨a2, a3⟩, ⟨a4, a5⟩, ⟨a6, a7⟩, ⟨a8, a9⟩⟩, l1, l2, L, l4⟩ : S31) (Kd.R_below R10.out HB.out) (Kd.R_below R11.out HB.out) (Kd.R_lower HO.out (Nat.le_trans HBB.out HLO.out)) (Kd.R_below R13.out HB.out), HB.out⟩
  · rw [if_neg hE]
    have hq : (E == 0) = false := by simpa using hE
    have hq2 : (E != 0) = true := by simpa using hE
    clear hE
    go_enter Try.func43, Try.ntmps43
    go_wp2_with (first
      | ((with_reducible refine gate_dst (N := 3) rfl ?_); refine box_event ?hg (N := 3) ?hd (cs := #[.int .i64 a0, .int .i64 a1, .int .i64 a2, .int .i64 a3, .int .i64 a4, .int .i64 a5, .int .i64 a6, .int .i64 a7, .int .i64 a8, .int .i64 a9, .slice A10 l1.length c10, .slice A11 l2.length c11, .slice A12 l3.length c12, .slice A13 l4.length c13]) (t := 31) ?hr ?_; (case hd => rfl); (case hg => rfl); (case hr => first | (go_simp; done) | (go_simp; rfl)); intro g hg w1 hbox hb; have GEg := Aside0.mk ((by rw [hg]; exact HB.out.size) : w.heap.size ≤ g); have BKg := Aside0.mk hbox; clear hbox hg; have n0_ := Aside0.mk (below_step HB.out hb); clear HB; have HB := n0_; clear n0_; skip; clear hb)
      | ((with_reducible refine gate_dst (N := 6) rfl ?_); refine box_event ?hg (N := 6) ?hd (cs := #[.int .i64 0, .int .i64 0, .int .i64 0, .int .i64 0, .int .i64 0, .int .i64 0, .int .i64 0, .int .i64 0, .int .i64 0, .int .i64 0, .slice none 0 0, .slice none 0 0, .slice none 0 0, .slice none 0 0]) (t := 31) ?hr ?_; (case hd => rfl); (case hg => rfl); (case hr => first | (go_simp; done) | (go_simp; rfl)); intro b hg w1b hbox hb; have NB := Aside0.mk (show g ≠ b by rw [hg]; exact Nat.ne_of_lt (blk_lt BKg.out)); have GEb := Aside0.mk ((by rw [hg]; exact HB.out.size) : w.heap.size ≤ b); have BKb := Aside0.mk hbox; clear hbox hg; have n0_ := Aside0.mk (below_step HB.out hb); have n1_ := Aside0.mk (blk_below BKg.out hb); clear HB BKg; have HB := n0_; have BKg := n1_; clear n0_ n1_; skip; clear hb)
      | (refine wpList_load_row rfl 31 _ rfl g rfl 31 _ (0, 0) _ BKg.out hu rfl Fi.size ?_)
      | (go_at_call 21; (with_reducible refine (Fi.rright14 (Fi.V_below HV.out HB.out) hd).mono ?_); rintro r w2 ⟨rfl, hb⟩; have n0_ := Aside0.mk (below_step HB.out hb); have n1_ := Aside0.mk (blk_below BKg.out hb); have n2_ := Aside0.mk (blk_below BKb.out hb); clear HB BKg BKb; have HB := n0_; have BKg := n1_; have BKb := n2_; clear n0_ n1_ n2_; have cg_4 : w2.cell? ⟨g, 4, none⟩ = some (.int .i64 a4) := (blk_cell BKg.out 4).trans rfl; have cg_5 : w2.cell? ⟨g, 5, none⟩ = some (.int .i64 a5) := (blk_cell BKg.out 5).trans rfl; have cg_12 : w2.cell? ⟨g, 12, none⟩ = some (.slice A12 l3.length c12) := (blk_cell BKg.out 12).trans rfl; clear hb)
      | (go_at_call 61; (have HLG := Aside0.mk (blk_lt BKg.out)); (have HLB := Aside0.mk (blk_lt BKb.out)); (have HLO := Aside0.mk HB.out.size); (with_reducible refine (Fi.rputW (Kd.C_below G12.out HB.out) K12.out (Kd.C_below HR.out HB.out) HC.out hp.out HE.out).mono ?_); rintro r w3 ⟨v, rfl, ho, hb⟩; obtain ⟨Av, cv, ev⟩ := Kd.R_slice ho; subst ev; have HO := Aside0.mk ho; clear ho; have n0_ := Aside0.mk (below_step HB.out hb); have n1_ := Aside0.mk (blk_below BKg.out hb); have n2_ := Aside0.mk (blk_below BKb.out hb); clear HB BKg BKb; have HB := n0_; have BKg := n1_; have BKb := n2_; clear n0_ n1_ n2_; have cg_12 : w3.cell? ⟨g, 12, none⟩ = some (.slice A12 l3.length c12) := (blk_cell BKg.out 12).trans rfl; have fg_12 := blk_frozen BKg.out 12; clear hb)
      | ((with_reducible refine gate_dst (N := 38) rfl ?_); refine Fi.load_hide2 rfl (.agg Fi.Z) ?hr ?_; (case hr => first | (go_simp; done) | (go_simp; rfl)); intro u hu_; have HU := Aside0.mk hu_; clear hu_)
      | ((with_reducible refine gate_store rfl ?_); refine Fi.store_row rfl 31 _ _ rfl b Fi.Z rfl HU.out 31 _ BKb.out (by kernel_rfl) rfl (by first | kernel_rfl | simp [Value.oneCell']) ?_; intro w9 hg9 hgr; have n1_ := Aside0.mk (HB.out.grown hgr HB.out.size (fun k hk => by cases hk; exact GEb.out)); clear HB BKb; have HB := n1_; have BKb := Aside0.mk hg9; clear n1_ hg9 hgr))
    refine bodyPost_ret (results_ct rfl _ _ b 31 Fi.Z (0, 0) _ rfl BKb.out hu rfl (by kernel_rfl)) rfl ?_
    exact ⟨_, rfl, Fi.N_zero _ _, HB.out⟩

end Go.Proofs.Ytamcpmfimicnjaa.P
