import Derived.Test.YtamcpmfimicnjaaX
import Derived.Test.YtamcpmfimicnjaaFr0
import Derived.Test.YtamcpmfimicnjaaFb
import Derived.Test.YtamcpmfimicnjaaFc
import Derived.Test.YtamcpmfimicnjaaLFile
namespace Go.Proofs.Ytamcpmfimicnjaa.P
open Go.RowKit Go.Proofs.YtamcpmfimicnjaaW.PrintWords Go.Proofs.YtamcpmfimicnjaaW.PrintLast Go.Proofs.YtamcpmfimicnjaaW.PrintMore
attribute [local go_sem] max2_int min2_int max_two min_two max_three min_three max_four min_four   -- for this text's walks alone
set_option linter.unusedVariables false
set_option linter.unusedSimpArgs false
open Go.Proofs.Ytamcpmfimicnjaa.L

set_option maxHeartbeats 4000000 in
set_option maxRecDepth 100000 in
theorem Fi.rbits {w : World} {cs : Array Value} {x : S31} (h : Fi.V w cs x) (i : Bool) {p n : Int} (hp0 : I64 p) (hn0 : I64 n) : Calls Try.prog 25 #[.agg cs, .bool i, .int .i64 p, .int .i64 n] w fun e w' => ∃ v, e = .returned (.tuple #[v, .int .i64 (Fi.bits x i p n).2]) ∧ Kd.bool.R 4 w' w.heap.size (fun _ => True) v (Fi.bits x i p n).1 ∧ Below w.heap.size w w' := by
  obtain ⟨⟨⟨a0, a1⟩, ⟨a2, a3⟩, ⟨a4, a5⟩, ⟨a6, a7⟩, ⟨a8, a9⟩⟩, l1, l2, l3, l4⟩ := x
  have HV := Aside0.mk h
  obtain ⟨A10, c10, A11, c11, A12, c12, A13, c13, rfl, k10, g10, k11, g11, k12, g12, k13, g13⟩ := Fi.open2 h
  have K10 := Aside0.mk k10
  have G10 := Aside0.mk g10
  have K11 := Aside0.mk k11
  have G11 := Aside0.mk g11
  have K12 := Aside0.mk k12
  have G12 := Aside0.mk g12
  have K13 := Aside0.mk k13
  have G13 := Aside0.mk g13
  clear h k10 g10 k11 g11 k12 g12 k13 g13
  have hu := Try.underlying31
  have hu25 := Try.underlying25
  have hu23 := Try.underlying23
  have hz := Fi.zero
  have HB := Aside0.mk (Below.refl w.heap.size w)
  clear hz
  have hp := Aside0.mk hp0
  have hn := Aside0.mk hn0
  clear hp0 hn0
  by_cases hP : Fi.P (⟨⟨⟨a0, a1⟩, ⟨a2, a3⟩, ⟨a4, a5⟩, ⟨a6, a7⟩, ⟨a8, a9⟩⟩, l1, l2, l3, l4⟩ : S31)
  rotate_left
  · have hd : decide (Fi.P (⟨⟨⟨a0, a1⟩, ⟨a2, a3⟩, ⟨a4, a5⟩, ⟨a6, a7⟩, ⟨a8, a9⟩⟩, l1, l2, l3, l4⟩ : S31)) = false := decide_eq_false hP
    rw [show Fi.bits (⟨⟨⟨a0, a1⟩, ⟨a2, a3⟩, ⟨a4, a5⟩, ⟨a6, a7⟩, ⟨a8, a9⟩⟩, l1, l2, l3, l4⟩ : S31) i p n = ([], 11) from if_neg hP]
    clear hP
    go_enter Try.func25, Try.ntmps25
    go_wp2_with (first
      | ((with_reducible refine gate_dst (N := 4) rfl ?_); refine box_event ?hg (N := 4) ?hd (cs := #[.int .i64 a0, .int .i64 a1, .int .i64 a2, .int .i64 a3, .int .i64 a4, .int .i64 a5, .int .i64 a6, .int .i64 a7, .int .i64 a8, .int .i64 a9, .slice A10 l1.length c10, .slice A11 l2.length c11, .slice A12 l3.length c12, .slice A13 l4.length c13]) (t := 31) ?hr ?_; (case hd => rfl); (case hg => rfl); (case hr => first | (go_simp; done) | (go_simp; rfl)); intro g hg w1 hbox hb; have GEg := Aside0.mk ((by rw [hg]; exact HB.out.size) : w.heap.size ≤ g); have BKg := Aside0.mk hbox; clear hbox hg; have n0_ := Aside0.mk (below_step HB.out hb); clear HB; have HB := n0_; clear n0_; skip; clear hb)
      | (refine wpList_load_row rfl 31 _ rfl g rfl 31 _ (0, 0) _ BKg.out hu rfl Fi.size ?_)
      | (go_at_call 21; (with_reducible refine (Fi.rright14 (Fi.V_below HV.out HB.out) hd).mono ?_); rintro r w2 ⟨rfl, hb⟩; have n0_ := Aside0.mk (below_step HB.out hb); have n1_ := Aside0.mk (blk_below BKg.out hb); clear HB BKg; have HB := n0_; have BKg := n1_; clear n0_ n1_; clear hb))
    go_ret2
    exact ⟨_, rfl, Kd.R_nil _ _ _ _ _, HB.out⟩
  have hd : decide (Fi.P (⟨⟨⟨a0, a1⟩, ⟨a2, a3⟩, ⟨a4, a5⟩, ⟨a6, a7⟩, ⟨a8, a9⟩⟩, l1, l2, l3, l4⟩ : S31)) = true := decide_eq_true hP
  cases i with
  | true =>
    obtain ⟨L, E, HE0⟩ : ∃ L E, readS a2 a3 l2 p n = (L, E) := ⟨_, _, rfl⟩
    rw [show Fi.bits (⟨⟨⟨a0, a1⟩, ⟨a2, a3⟩, ⟨a4, a5⟩, ⟨a6, a7⟩, ⟨a8, a9⟩⟩, l1, l2, l3, l4⟩ : S31) true p n = (L, E) from (if_pos hP).trans ((if_pos rfl).trans HE0)]
    have HE := Aside0.mk HE0
    clear HE0 hP
    go_enter Try.func25, Try.ntmps25
    go_wp2_with (first
      | ((with_reducible refine gate_dst (N := 4) rfl ?_); refine box_event ?hg (N := 4) ?hd (cs := #[.int .i64 a0, .int .i64 a1, .int .i64 a2, .int .i64 a3, .int .i64 a4, .int .i64 a5, .int .i64 a6, .int .i64 a7, .int .i64 a8, .int .i64 a9, .slice A10 l1.length c10, .slice A11 l2.length c11, .slice A12 l3.length c12, .slice A13 l4.length c13]) (t := 31) ?hr ?_; (case hd => rfl); (case hg => rfl); (case hr => first | (go_simp; done) | (go_simp; rfl)); intro g hg w1 hbox hb; have GEg := Aside0.mk ((by rw [hg]; exact HB.out.size) : w.heap.size ≤ g); have BKg := Aside0.mk hbox; clear hbox hg; have n0_ := Aside0.mk (below_step HB.out hb); clear HB; have HB := n0_; clear n0_; skip; clear hb)
      | (refine wpList_load_row rfl 31 _ rfl g rfl 31 _ (0, 0) _ BKg.out hu rfl Fi.size ?_)
      | (go_at_call 21; (with_reducible refine (Fi.rright14 (Fi.V_below HV.out HB.out) hd).mono ?_); rintro r w2 ⟨rfl, hb⟩; have n0_ := Aside0.mk (below_step HB.out hb); have n1_ := Aside0.mk (blk_below BKg.out hb); clear HB BKg; have HB := n0_; have BKg := n1_; clear n0_ n1_; have cg_2 : w2.cell? ⟨g, 2, none⟩ = some (.int .i64 a2) := (blk_cell BKg.out 2).trans rfl; have cg_3 : w2.cell? ⟨g, 3, none⟩ = some (.int .i64 a3) := (blk_cell BKg.out 3).trans rfl; have cg_11 : w2.cell? ⟨g, 11, none⟩ = some (.slice A11 l2.length c11) := (blk_cell BKg.out 11).trans rfl; clear hb)
      | (go_at_call 45; (have HLE := Aside0.mk HB.out.size); (with_reducible refine (Fi.rgetB (Kd.C_below G11.out HB.out) K11.out hp.out HE.out).mono ?_); rintro r w3 ⟨v, rfl, ho, hb⟩; have HO := Aside0.mk ho; clear ho; have n0_ := Aside0.mk (below_step HB.out hb); have n1_ := Aside0.mk (blk_below BKg.out hb); clear HB BKg; have HB := n0_; have BKg := n1_; clear n0_ n1_; clear hb))
    go_ret2
    exact ⟨_, rfl, Kd.R_lower HO.out HLE.out, HB.out⟩
  | false =>
    obtain ⟨L, E, HE0⟩ : ∃ L E, readS a0 a1 l1 p n = (L, E) := ⟨_, _, rfl⟩
    rw [show Fi.bits (⟨⟨⟨a0, a1⟩, ⟨a2, a3⟩, ⟨a4, a5⟩, ⟨a6, a7⟩, ⟨a8, a9⟩⟩, l1, l2, l3, l4⟩ : S31) false p n = (L, E) from (if_pos hP).trans ((if_neg Bool.false_ne_true).trans HE0)]
    have HE := Aside0.mk HE0
    clear HE0 hP
    go_enter Try.func25, Try.ntmps25
    go_wp2_with (first
      | ((with_reducible refine gate_dst (N := 4) rfl ?_); refine box_event ?hg (N := 4) ?hd (cs := #[.int .i64 a0, .int .i64 a1, .int .i64 a2, .int .i64 a3, .int .i64 a4, .int .i64 a5, .int .i64 a6, .int .i64 a7, .int .i64 a8, .int .i64 a9, .slice A10 l1.length c10, .slice A11 l2.length c11, .slice A12 l3.length c12, .slice A13 l4.length c13]) (t := 31) ?hr ?_; (case hd => rfl); (case hg => rfl); (case hr => first | (go_simp; done) | (go_simp; rfl)); intro g hg w1 hbox hb; have GEg := Aside0.mk ((by rw [hg]; exact HB.out.size) : w.heap.size ≤ g); have BKg := Aside0.mk hbox; clear hbox hg; have n0_ := Aside0.mk (below_step HB.out hb); clear HB; have HB := n0_; clear n0_; skip; clear hb)
      | (refine wpList_load_row rfl 31 _ rfl g rfl 31 _ (0, 0) _ BKg.out hu rfl Fi.size ?_)
      | (go_at_call 21; (with_reducible refine (Fi.rright14 (Fi.V_below HV.out HB.out) hd).mono ?_); rintro r w2 ⟨rfl, hb⟩; have n0_ := Aside0.mk (below_step HB.out hb); have n1_ := Aside0.mk (blk_below BKg.out hb); clear HB BKg; have HB := n0_; have BKg := n1_; clear n0_ n1_; have cg_0 : w2.cell? ⟨g, 0, none⟩ = some (.int .i64 a0) := (blk_cell BKg.out 0).trans rfl; have cg_1 : w2.cell? ⟨g, 1, none⟩ = some (.int .i64 a1) := (blk_cell BKg.out 1).trans rfl; have cg_10 : w2.cell? ⟨g, 10, none⟩ = some (.slice A10 l1.length c10) := (blk_cell BKg.out 10).trans rfl; clear hb)
      | (go_at_call 45; (have HLE := Aside0.mk HB.out.size); (with_reducible refine (Fi.rgetB (Kd.C_below G10.out HB.out) K10.out hp.out HE.out).mono ?_); rintro r w3 ⟨v, rfl, ho, hb⟩; have HO := Aside0.mk ho; clear ho; have n0_ := Aside0.mk (below_step HB.out hb); have n1_ := Aside0.mk (blk_below BKg.out hb); clear HB BKg; have HB := n0_; have BKg := n1_; clear n0_ n1_; clear hb))
    go_ret2
    exact ⟨_, rfl, Kd.R_lower HO.out HLE.out, HB.out⟩
set_option maxHeartbeats 4000000 in
set_option maxRecDepth 100000 in
theorem Fi.rwords {w : World} {cs : Array Value} {x : S31} (h : Fi.V w cs x) (i : Bool) {p n : Int} (hp0 : I64 p) (hn0 : I64 n) : Calls Try.prog 26 #[.agg cs, .bool i, .int .i64 p, .int .i64 n] w fun e w' => ∃ v, e = .returned (.tuple #[v, .int .i64 (Fi.words x i p n).2]) ∧ (Kd.int .u16).R 53 w' w.heap.size (fun _ => True) v (Fi.words x i p n).1 ∧ Below w.heap.size w w' := by
  obtain ⟨⟨⟨a0, a1⟩, ⟨a2, a3⟩, ⟨a4, a5⟩, ⟨a6, a7⟩, ⟨a8, a9⟩⟩, l1, l2, l3, l4⟩ := x
  have HV := Aside0.mk h
  obtain ⟨A10, c10, A11, c11, A12, c12, A13, c13, rfl, k10, g10, k11, g11, k12, g12, k13, g13⟩ := Fi.open2 h
  have K10 := Aside0.mk k10
  have G10 := Aside0.mk g10
  have K11 := Aside0.mk k11
  have G11 := Aside0.mk g11
  have K12 := Aside0.mk k12
  have G12 := Aside0.mk g12
  have K13 := Aside0.mk k13
  have G13 := Aside0.mk g13
  clear h k10 g10 k11 g11 k12 g12 k13 g13
  have hu := Try.underlying31
  have hu25 := Try.underlying25
  have hu23 := Try.underlying23
  have hz := Fi.zero
  have HB := Aside0.mk (Below.refl w.heap.size w)
  clear hz
  have hp := Aside0.mk hp0
  have hn := Aside0.mk hn0
  clear hp0 hn0
  by_cases hP : Fi.P (⟨⟨⟨a0, a1⟩, ⟨a2, a3⟩, ⟨a4, a5⟩, ⟨a6, a7⟩, ⟨a8, a9⟩⟩, l1, l2, l3, l4⟩ : S31)
  rotate_left
  · have hd : decide (Fi.P (⟨⟨⟨a0, a1⟩, ⟨a2, a3⟩, ⟨a4, a5⟩, ⟨a6, a7⟩, ⟨a8, a9⟩⟩, l1, l2, l3, l4⟩ : S31)) = false := decide_eq_false hP
    rw [show Fi.words (⟨⟨⟨a0, a1⟩, ⟨a2, a3⟩, ⟨a4, a5⟩, ⟨a6, a7⟩, ⟨a8, a9⟩⟩, l1, l2, l3, l4⟩ : S31) i p n = ([], 11) from if_neg hP]
    clear hP
    go_enter Try.func26, Try.ntmps26
    go_wp2_with (first
      | ((with_reducible refine gate_dst (N := 4) rfl ?_); refine box_event ?hg (N := 4) ?hd (cs := #[.int .i64 a0, .int .i64 a1, .int .i64 a2, .int .i64 a3, .int .i64 a4, .int .i64 a5, .int .i64 a6, .int .i64 a7, .int .i64 a8, .int .i64 a9, .slice A10 l1.length c10, .slice A11 l2.length c11, .slice A12 l3.length c12, .slice A13 l4.length c13]) (t := 31) ?hr ?_; (case hd => rfl); (case hg => rfl); (case hr => first | (go_simp; done) | (go_simp; rfl)); intro g hg w1 hbox hb; have GEg := Aside0.mk ((by rw [hg]; exact HB.out.size) : w.heap.size ≤ g); have BKg := Aside0.mk hbox; clear hbox hg; have n0_ := Aside0.mk (below_step HB.out hb); clear HB; have HB := n0_; clear n0_; skip; clear hb)
      | (refine wpList_load_row rfl 31 _ rfl g rfl 31 _ (0, 0) _ BKg.out hu rfl Fi.size ?_)
      | (go_at_call 21; (with_reducible refine (Fi.rright14 (Fi.V_below HV.out HB.out) hd).mono ?_); rintro r w2 ⟨rfl, hb⟩; have n0_ := Aside0.mk (below_step HB.out hb); have n1_ := Aside0.mk (blk_below BKg.out hb); clear HB BKg; have HB := n0_; have BKg := n1_; clear n0_ n1_; clear hb))
    go_ret2
    exact ⟨_, rfl, Kd.R_nil _ _ _ _ _, HB.out⟩
  have hd : decide (Fi.P (⟨⟨⟨a0, a1⟩, ⟨a2, a3⟩, ⟨a4, a5⟩, ⟨a6, a7⟩, ⟨a8, a9⟩⟩, l1, l2, l3, l4⟩ : S31)) = true := decide_eq_true hP
  cases i with
  | true =>
    obtain ⟨L, E, HE0⟩ : ∃ L E, readS a6 a7 l4 p n = (L, E) := ⟨_, _, rfl⟩
    rw [show Fi.words (⟨⟨⟨a0, a1⟩, ⟨a2, a3⟩, ⟨a4, a5⟩, ⟨a6, a7⟩, ⟨a8, a9⟩⟩, l1, l2, l3, l4⟩ : S31) true p n = (L, E) from (if_pos hP).trans ((if_pos rfl).trans HE0)]
    have HE := Aside0.mk HE0
    clear HE0 hP
    go_enter Try.func26, Try.ntmps26
    go_wp2_with (first
      | ((with_reducible refine gate_dst (N := 4) rfl ?_); refine box_event ?hg (N := 4) ?hd (cs := #[.int .i64 a0, .int .i64 a1, .int .i64 a2, .int .i64 a3, .int .i64 a4, .int .i64 a5, .int .i64 a6, .int .i64 a7, .int .i64 a8, .int .i64 a9, .slice A10 l1.length c10, .slice A11 l2.length c11, .slice A12 l3.length c12, .slice A13 l4.length c13]) (t := 31) ?hr ?_; (case hd => rfl); (case hg => rfl); (case hr => first | (go_simp; done) | (go_simp; rfl)); intro g hg w1 hbox hb; have GEg := Aside0.mk ((by rw [hg]; exact HB.out.size) : w.heap.size ≤ g); have BKg := Aside0.mk hbox; clear hbox hg; have n0_ := Aside0.mk (below_step HB.out hb); clear HB; have HB := n0_; clear n0_; skip; clear hb)
      | (refine wpList_load_row rfl 31 _ rfl g rfl 31 _ (0, 0) _ BKg.out hu rfl Fi.size ?_)
      | (go_at_call 21; (with_reducible refine (Fi.rright14 (Fi.V_below HV.out HB.out) hd).mono ?_); rintro r w2 ⟨rfl, hb⟩; have n0_ := Aside0.mk (below_step HB.out hb); have n1_ := Aside0.mk (blk_below BKg.out hb); clear HB BKg; have HB := n0_; have BKg := n1_; clear n0_ n1_; have cg_6 : w2.cell? ⟨g, 6, none⟩ = some (.int .i64 a6) := (blk_cell BKg.out 6).trans rfl; have cg_7 : w2.cell? ⟨g, 7, none⟩ = some (.int .i64 a7) := (blk_cell BKg.out 7).trans rfl; have cg_13 : w2.cell? ⟨g, 13, none⟩ = some (.slice A13 l4.length c13) := (blk_cell BKg.out 13).trans rfl; clear hb)
      | (go_at_call 46; (have HLE := Aside0.mk HB.out.size); (with_reducible refine (Fi.rgetW (Kd.C_below G13.out HB.out) K13.out hp.out HE.out).mono ?_); rintro r w3 ⟨v, rfl, ho, hb⟩; have HO := Aside0.mk ho; clear ho; have n0_ := Aside0.mk (below_step HB.out hb); have n1_ := Aside0.mk (blk_below BKg.out hb); clear HB BKg; have HB := n0_; have BKg := n1_; clear n0_ n1_; clear hb))
    go_ret2
    exact ⟨_, rfl, Kd.R_lower HO.out HLE.out, HB.out⟩
  | false =>
    obtain ⟨L, E, HE0⟩ : ∃ L E, readS a4 a5 l3 p n = (L, E) := ⟨_, _, rfl⟩
    have hW : Fi.words (⟨⟨⟨a0, a1⟩, ⟨a2, a3⟩, ⟨a4, a5⟩, ⟨a6, a7⟩, ⟨a8, a9⟩⟩, l1, l2, l3, l4⟩ : S31) false p n = (if E = 0 ∧ MeetsP a8 a9 p n then ([], 4) else (L, E)) := by
      unfold Fi.words
      rw [if_pos hP, if_neg Bool.false_ne_true]
      simp only [HE0]
    rw [hW]
    have HE := Aside0.mk HE0
    clear HE0 hP hW
    by_cases hE : E = 0
    · subst hE
      by_cases hM : MeetsP a8 a9 p n
      · have hm : decide (MeetsP a8 a9 p n) = true := decide_eq_true hM
        rw [if_pos ⟨rfl, hM⟩]
        clear hM
        go_enter Try.func26, Try.ntmps26
        go_wp2_with (first
          | ((with_reducible refine gate_dst (N := 4) rfl ?_); refine box_event ?hg (N := 4) ?hd (cs := #[.int .i64 a0, .int .i64 a1, .int .i64 a2, .int .i64 a3, .int .i64 a4, .int .i64 a5, .int .i64 a6, .int .i64 a7, .int .i64 a8, .int .i64 a9, .slice A10 l1.length c10, .slice A11 l2.length c11, .slice A12 l3.length c12, .slice A13 l4.length c13]) (t := 31) ?hr ?_; (case hd => rfl); (case hg => rfl); (case hr => first | (go_simp; done) | (go_simp; rfl)); intro g hg w1 hbox hb; have GEg := Aside0.mk ((by rw [hg]; exact HB.out.size) : w.heap.size ≤ g); have BKg := Aside0.mk hbox; clear hbox hg; have n0_ := Aside0.mk (below_step HB.out hb); clear HB; have HB := n0_; clear n0_; skip; clear hb)
          | (refine wpList_load_row rfl 31 _ rfl g rfl 31 _ (0, 0) _ BKg.out hu rfl Fi.size ?_)
          | (go_at_call 21; (with_reducible refine (Fi.rright14 (Fi.V_below HV.out HB.out) hd).mono ?_); rintro r w2 ⟨rfl, hb⟩; have n0_ := Aside0.mk (below_step HB.out hb); have n1_ := Aside0.mk (blk_below BKg.out hb); clear HB BKg; have HB := n0_; have BKg := n1_; clear n0_ n1_; have cg_4 : w2.cell? ⟨g, 4, none⟩ = some (.int .i64 a4) := (blk_cell BKg.out 4).trans rfl; have cg_5 : w2.cell? ⟨g, 5, none⟩ = some (.int .i64 a5) := (blk_cell BKg.out 5).trans rfl; have cg_12 : w2.cell? ⟨g, 12, none⟩ = some (.slice A12 l3.length c12) := (blk_cell BKg.out 12).trans rfl; clear hb)
          | (go_at_call 46; (have HLE := Aside0.mk HB.out.size); (with_reducible refine (Fi.rgetW (Kd.C_below G12.out HB.out) K12.out hp.out HE.out).mono ?_); rintro r w3 ⟨v, rfl, ho, hb⟩; have HO := Aside0.mk ho; clear ho; have n0_ := Aside0.mk (below_step HB.out hb); have n1_ := Aside0.mk (blk_below BKg.out hb); clear HB BKg; have HB := n0_; have BKg := n1_; clear n0_ n1_; have cb8 : w3.cell? ⟨g, 8, none⟩ = some (.int .i64 a8) := (blk_cell BKg.out 8).trans rfl; have cb9 : w3.cell? ⟨g, 9, none⟩ = some (.int .i64 a9) := (blk_cell BKg.out 9).trans rfl; clear hb)
          | (go_at_call 47; (with_reducible refine (Fi.rmeets hp.out hn.out hm _).mono ?_); rintro r w4 ⟨rfl, hb⟩; have n0_ := Aside0.mk (below_step HB.out hb); have n1_ := Aside0.mk (blk_below BKg.out hb); have n2_ := Aside0.mk (Kd.R_below HO.out hb); clear HB BKg HO; have HB := n0_; have BKg := n1_; have HO := n2_; clear n0_ n1_ n2_; clear hb))
        go_ret2
        exact ⟨_, rfl, Kd.R_nil _ _ _ _ _, HB.out⟩
      · have hm : decide (MeetsP a8 a9 p n) = false := decide_eq_false hM
        rw [if_neg (fun hh => hM hh.2)]
        clear hM
        go_enter Try.func26, Try.ntmps26
        go_wp2_with (first
          | ((with_reducible refine gate_dst (N := 4) rfl ?_); refine box_event ?hg (N := 4) ?hd (cs := #[.int .i64 a0, .int .i64 a1, .int .i64 a2, .int .i64 a3, .int .i64 a4, .int .i64 a5, .int .i64 a6, .int .i64 a7, .int .i64 a8, .int .i64 a9, .slice A10 l1.length c10, .slice A11 l2.length c11, .slice A12 l3.length c12, .slice A13 l4.length c13]) (t := 31) ?hr ?_; (case hd => rfl); (case hg => rfl); (case hr => first | (go_simp; done) | (go_simp; rfl)); intro g hg w1 hbox hb; have GEg := Aside0.mk ((by rw [hg]; exact HB.out.size) : w.heap.size ≤ g); have BKg := Aside0.mk hbox; clear hbox hg; have n0_ := Aside0.mk (below_step HB.out hb); clear HB; have HB := n0_; clear n0_; skip; clear hb)
          | (refine wpList_load_row rfl 31 _ rfl g rfl 31 _ (0, 0) _ BKg.out hu rfl Fi.size ?_)
          | (go_at_call 21; (with_reducible refine (Fi.rright14 (Fi.V_below HV.out HB.out) hd).mono ?_); rintro r w2 ⟨rfl, hb⟩; have n0_ := Aside0.mk (below_step HB.out hb); have n1_ := Aside0.mk (blk_below BKg.out hb); clear HB BKg; have HB := n0_; have BKg := n1_; clear n0_ n1_; have cg_4 : w2.cell? ⟨g, 4, none⟩ = some (.int .i64 a4) := (blk_cell BKg.out 4).trans rfl; have cg_5 : w2.cell? ⟨g, 5, none⟩ = some (.int .i64 a5) := (blk_cell BKg.out 5).trans rfl; have cg_12 : w2.cell? ⟨g, 12, none⟩ = some (.slice A12 l3.length c12) := (blk_cell BKg.out 12).trans rfl; clear hb)
          | (go_at_call 46; (have HLE := Aside0.mk HB.out.size); (with_reducible refine (Fi.rgetW (Kd.C_below G12.out HB.out) K12.out hp.out HE.out).mono ?_); rintro r w3 ⟨v, rfl, ho, hb⟩; have HO := Aside0.mk ho; clear ho; have n0_ := Aside0.mk (below_step HB.out hb); have n1_ := Aside0.mk (blk_below BKg.out hb); clear HB BKg; have HB := n0_; have BKg := n1_; clear n0_ n1_; have cb8 : w3.cell? ⟨g, 8, none⟩ = some (.int .i64 a8) := (blk_cell BKg.out 8).trans rfl; have cb9 : w3.cell? ⟨g, 9, none⟩ = some (.int .i64 a9) := (blk_cell BKg.out 9).trans rfl; clear hb)
          | (go_at_call 47; (with_reducible refine (Fi.rmeets hp.out hn.out hm _).mono ?_); rintro r w4 ⟨rfl, hb⟩; have n0_ := Aside0.mk (below_step HB.out hb); have n1_ := Aside0.mk (blk_below BKg.out hb); have n2_ := Aside0.mk (Kd.R_below HO.out hb); clear HB BKg HO; have HB := n0_; have BKg := n1_; have HO := n2_; clear n0_ n1_ n2_; clear hb))
        go_ret2
        exact ⟨_, rfl, Kd.R_lower HO.out HLE.out, HB.out⟩
    · rw [if_neg (fun hh => hE hh.1)]
      have hq : (E == 0) = false := by simpa using hE
      clear hE
      go_enter Try.func26, Try.ntmps26
      go_wp2_with (first
        | ((with_reducible refine gate_dst (N := 4) rfl ?_); refine box_event ?hg (N := 4) ?hd (cs := #[.int .i64 a0, .int .i64 a1, .int .i64 a2, .int .i64 a3, .int .i64 a4, .int .i64 a5, .int .i64 a6, .int .i64 a7, .int .i64 a8, .int .i64 a9, .slice A10 l1.length c10, .slice A11 l2.length c11, .slice A12 l3.length c12, .slice A13 l4.length c13]) (t := 31) ?hr ?_; (case hd => rfl); (case hg => rfl); (case hr => first | (go_simp; done) | (go_simp; rfl)); intro g hg w1 hbox hb; have GEg := Aside0.mk ((by rw [hg]; exact HB.out.size) : w.heap.size ≤ g); have BKg := Aside0.mk hbox; clear hbox hg; have n0_ := Aside0.mk (below_step HB.out hb); clear HB; have HB := n0_; clear n0_; skip; clear hb)
        | (refine wpList_load_row rfl 31 _ rfl g rfl 31 _ (0, 0) _ BKg.out hu rfl Fi.size ?_)
        | (go_at_call 21; (with_reducible refine (Fi.rright14 (Fi.V_below HV.out HB.out) hd).mono ?_); rintro r w2 ⟨rfl, hb⟩; have n0_ := Aside0.mk (below_step HB.out hb); have n1_ := Aside0.mk (blk_below BKg.out hb); clear HB BKg; have HB := n0_; have BKg := n1_; clear n0_ n1_; have cg_4 : w2.cell? ⟨g, 4, none⟩ = some (.int .i64 a4) := (blk_cell BKg.out 4).trans rfl; have cg_5 : w2.cell? ⟨g, 5, none⟩ = some (.int .i64 a5) := (blk_cell BKg.out 5).trans rfl; have cg_12 : w2.cell? ⟨g, 12, none⟩ = some (.slice A12 l3.length c12) := (blk_cell BKg.out 12).trans rfl; clear hb)
        | (go_at_call 46; (have HLE := Aside0.mk HB.out.size); (with_reducible refine (Fi.rgetW (Kd.C_below G12.out HB.out) K12.out hp.out HE.out).mono ?_); rintro r w3 ⟨v, rfl, ho, hb⟩; have HO := Aside0.mk ho; clear ho; have n0_ := Aside0.mk (below_step HB.out hb); have n1_ := Aside0.mk (blk_below BKg.out hb); clear HB BKg; have HB := n0_; have BKg := n1_; clear n0_ n1_; have cb8 : w3.cell? ⟨g, 8, none⟩ = some (.int .i64 a8) := (blk_cell BKg.out 8).trans rfl; have cb9 : w3.cell? ⟨g, 9, none⟩ = some (.int .i64 a9) := (blk_cell BKg.out 9).trans rfl; clear hb))
      go_ret2
      exact ⟨_, rfl, Kd.R_lower HO.out HLE.out, HB.out⟩

end Go.Proofs.Ytamcpmfimicnjaa.P
