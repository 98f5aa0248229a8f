import Derived.Test.YtamcpmfimicnjaaX
import Derived.Test.YtamcpmfimicnjaaFc
import Derived.Test.YtamcpmfimicnjaaLFile
namespace Go.Proofs.Ytamcpmfimicnjaa.P
open Go.RowKit Go.Proofs.YtamcpmfimicnjaaW.PrintWords Go.Proofs.YtamcpmfimicnjaaW.PrintLast Go.Proofs.YtamcpmfimicnjaaW.PrintMore
attribute [local go_sem] max2_int min2_int max_two min_two max_three min_three max_four min_four   -- for this text's walks alone
set_option linter.unusedVariables false
set_option linter.unusedSimpArgs false
open Go.Proofs.Ytamcpmfimicnjaa.L

set_option maxHeartbeats 4000000 in
set_option maxRecDepth 100000 in
theorem Fi.csetBits {w : World} {cs : Array Value} {x : S31} (h : Fi.V w cs x) {A : Option Addr} {c : Nat} {m : List Bool} (hr : Kd.bool.C w A m.length m) (hc : m.length ≤ c) {p : Int} (hp0 : I64 p) : Calls Try.prog 11 #[.agg cs, .int .i64 p, .slice A m.length c] w fun e w' => ∃ cs', e = .returned (.tuple #[.agg cs', .int .i64 (Fi.setBits x p m).2]) ∧ Fi.N w' w.heap.size cs' (Fi.setBits x p m).1 ∧ Below w.heap.size w w' := by
  obtain ⟨⟨⟨a0, a1⟩, ⟨a2, a3⟩, ⟨a4, a5⟩, ⟨a6, a7⟩, ⟨a8, a9⟩⟩, l1, l2, l3, l4⟩ := x
  have HV := Aside0.mk h
  obtain ⟨A10, c10, A11, c11, A12, c12, A13, c13, rfl, k10, g10, k11, g11, k12, g12, k13, g13⟩ := Fi.open2 h
  have K10 := Aside0.mk k10
  have G10 := Aside0.mk g10
  have K11 := Aside0.mk k11
  have G11 := Aside0.mk g11
  have K12 := Aside0.mk k12
  have G12 := Aside0.mk g12
  have K13 := Aside0.mk k13
  have G13 := Aside0.mk g13
  clear h k10 g10 k11 g11 k12 g12 k13 g13
  have hu := Try.underlying31
  have hu25 := Try.underlying25
  have hu23 := Try.underlying23
  have hz := Fi.zero
  have HB := Aside0.mk (Below.refl w.heap.size w)
  have hp := Aside0.mk hp0
  have HR := Aside0.mk hr
  have HC := Aside0.mk hc
  clear hp0 hr hc
  by_cases hP : Fi.P (⟨⟨⟨a0, a1⟩, ⟨a2, a3⟩, ⟨a4, a5⟩, ⟨a6, a7⟩, ⟨a8, a9⟩⟩, l1, l2, l3, l4⟩ : S31)
  rotate_left
  · have hd : decide (Fi.P (⟨⟨⟨a0, a1⟩, ⟨a2, a3⟩, ⟨a4, a5⟩, ⟨a6, a7⟩, ⟨a8, a9⟩⟩, l1, l2, l3, l4⟩ : S31)) = false := decide_eq_false hP
    rw [show Fi.setBits (⟨⟨⟨a0, a1⟩, ⟨a2, a3⟩, ⟨a4, a5⟩, ⟨a6, a7⟩, ⟨a8, a9⟩⟩, l1, l2, l3, l4⟩ : S31) p m = (z31, 11) from if_neg hP]
    clear hP
    go_enter Try.func11, Try.ntmps11
    go_wp2_with (first
      | ((with_reducible refine gate_dst (N := 3) rfl ?_); refine box_event ?hg (N := 3) ?hd (cs := #[.int .i64 a0, .int .i64 a1, .int .i64 a2, .int .i64 a3, .int .i64 a4, .int .i64 a5, .int .i64 a6, .int .i64 a7, .int .i64 a8, .int .i64 a9, .slice A10 l1.length c10, .slice A11 l2.length c11, .slice A12 l3.length c12, .slice A13 l4.length c13]) (t := 31) ?hr ?_; (case hd => rfl); (case hg => rfl); (case hr => first | (go_simp; done) | (go_simp; rfl)); intro g hg w1 hbox hb; have GEg := Aside0.mk ((by rw [hg]; exact HB.out.size) : w.heap.size ≤ g); have BKg := Aside0.mk hbox; clear hbox hg; have n0_ := Aside0.mk (below_step HB.out hb); clear HB; have HB := n0_; clear n0_; skip; clear hb)
      | ((with_reducible refine gate_dst (N := 6) rfl ?_); refine box_event ?hg (N := 6) ?hd (cs := #[.int .i64 0, .int .i64 0, .int .i64 0, .int .i64 0, .int .i64 0, .int .i64 0, .int .i64 0, .int .i64 0, .int .i64 0, .int .i64 0, .slice none 0 0, .slice none 0 0, .slice none 0 0, .slice none 0 0]) (t := 31) ?hr ?_; (case hd => rfl); (case hg => rfl); (case hr => first | (go_simp; done) | (go_simp; rfl)); intro b hg w1b hbox hb; have NB := Aside0.mk (show g ≠ b by rw [hg]; exact Nat.ne_of_lt (blk_lt BKg.out)); have GEb := Aside0.mk ((by rw [hg]; exact HB.out.size) : w.heap.size ≤ b); have BKb := Aside0.mk hbox; clear hbox hg; have n0_ := Aside0.mk (below_step HB.out hb); have n1_ := Aside0.mk (blk_below BKg.out hb); clear HB BKg; have HB := n0_; have BKg := n1_; clear n0_ n1_; skip; clear hb)
      | (refine wpList_load_row rfl 31 _ rfl g rfl 31 _ (0, 0) _ BKg.out hu rfl Fi.size ?_)
      | (go_at_call 19; (with_reducible refine (Fi.right (Fi.V_below HV.out HB.out) hd).mono ?_); rintro r w2 ⟨rfl, hb⟩; have n0_ := Aside0.mk (below_step HB.out hb); have n1_ := Aside0.mk (blk_below BKg.out hb); have n2_ := Aside0.mk (blk_below BKb.out hb); clear HB BKg BKb; have HB := n0_; have BKg := n1_; have BKb := n2_; clear n0_ n1_ n2_; clear hb)
      | (go_at_call 30; (have HLT := Aside0.mk (blk_lt BKb.out)); (have HLE := Aside0.mk HB.out.size); (with_reducible refine (Fi.told (Fi.V_below HV.out HB.out) 11 (fun he => absurd he (by decide)) (if_neg (by decide))).mono ?_); rintro r w3 ⟨cs', rfl, hN, hb⟩; have HN := Aside0.mk hN; clear hN; have n0_ := Aside0.mk (below_step HB.out hb); have n1_ := Aside0.mk (blk_below BKb.out hb); clear HB BKb; have HB := n0_; have BKb := n1_; clear n0_ n1_; clear hb)
      | ((with_reducible refine gate_store rfl ?_); refine Fi.store_row rfl 31 _ _ rfl b cs' rfl rfl 31 _ BKb.out (by rw [Fi.V_size HN.out.V]; exact Fi.size) (by rw [Fi.V_size HN.out.V]; rfl) (Fi.V_one HN.out.V) ?_; intro w9 hg9 hgr; have n1_ := Aside0.mk (HB.out.grown hgr HB.out.size (fun k hk => by cases hk; exact GEb.out)); have n2_ := Aside0.mk (Fi.N_grown HN.out hgr HLT.out); clear HB HN BKb; have HB := n1_; have HN := n2_; have BKb := Aside0.mk hg9; clear n1_ n2_ hg9 hgr))
    refine bodyPost_ret (results_ct rfl _ _ b 31 cs' (0, 0) _ rfl BKb.out hu rfl (by rw [Fi.V_size HN.out.V]; exact Fi.size)) rfl ?_
    exact ⟨cs', rfl, Fi.N_lower HN.out HLE.out, HB.out⟩
  have hd : decide (Fi.P (⟨⟨⟨a0, a1⟩, ⟨a2, a3⟩, ⟨a4, a5⟩, ⟨a6, a7⟩, ⟨a8, a9⟩⟩, l1, l2, l3, l4⟩ : S31)) = true := decide_eq_true hP
  obtain ⟨L, E, HE0⟩ : ∃ L E, writeS a0 a1 l1 p m = (L, E) := ⟨_, _, rfl⟩
  have HF := Aside0.mk (show E = 0 → Fi.Fit (⟨⟨⟨a0, a1⟩, ⟨a2, a3⟩, ⟨a4, a5⟩, ⟨a6, a7⟩, ⟨a8, a9⟩⟩, L, l2, l3, l4⟩ : S31) from fun he => by
    subst he
    have h1 := (Fi.write_len HE0).1
    have h2 := Fi.P_fit hP
    unfold Fi.Fit
    simp only at h2 ⊢
    omega)
  obtain ⟨Y, hY⟩ : ∃ Y, (if E = 0 then (⟨⟨⟨a0, a1⟩, ⟨a2, a3⟩, ⟨a4, a5⟩, ⟨a6, a7⟩, ⟨a8, a9⟩⟩, L, l2, l3, l4⟩ : S31) else z31) = Y := ⟨_, rfl⟩
  rw [show Fi.setBits (⟨⟨⟨a0, a1⟩, ⟨a2, a3⟩, ⟨a4, a5⟩, ⟨a6, a7⟩, ⟨a8, a9⟩⟩, l1, l2, l3, l4⟩ : S31) p m = (Y, E) from by
    rw [← hY]
    unfold Fi.setBits
    rw [if_pos hP]
    simp only [HE0]
    by_cases he : E = 0
    · simp only [he, if_true]
    · simp only [he, if_false]]
  have HY := Aside0.mk hY
  clear hY
  have HE := Aside0.mk HE0
  clear HE0 hP
  go_enter Try.func11, Try.ntmps11
  go_wp2_with (first
    | ((with_reducible refine gate_dst (N := 3) rfl ?_); refine box_event ?hg (N := 3) ?hd (cs := #[.int .i64 a0, .int .i64 a1, .int .i64 a2, .int .i64 a3, .int .i64 a4, .int .i64 a5, .int .i64 a6, .int .i64 a7, .int .i64 a8, .int .i64 a9, .slice A10 l1.length c10, .slice A11 l2.length c11, .slice A12 l3.length c12, .slice A13 l4.length c13]) (t := 31) ?hr ?_; (case hd => rfl); (case hg => rfl); (case hr => first | (go_simp; done) | (go_simp; rfl)); intro g hg w1 hbox hb; have GEg := Aside0.mk ((by rw [hg]; exact HB.out.size) : w.heap.size ≤ g); have BKg := Aside0.mk hbox; clear hbox hg; have n0_ := Aside0.mk (below_step HB.out hb); clear HB; have HB := n0_; clear n0_; skip; clear hb)
    | ((with_reducible refine gate_dst (N := 6) rfl ?_); refine box_event ?hg (N := 6) ?hd (cs := #[.int .i64 0, .int .i64 0, .int .i64 0, .int .i64 0, .int .i64 0, .int .i64 0, .int .i64 0, .int .i64 0, .int .i64 0, .int .i64 0, .slice none 0 0, .slice none 0 0, .slice none 0 0, .slice none 0 0]) (t := 31) ?hr ?_; (case hd => rfl); (case hg => rfl); (case hr => first | (go_simp; done) | (go_simp; rfl)); intro b hg w1b hbox hb; have NB := Aside0.mk (show g ≠ b by rw [hg]; exact Nat.ne_of_lt (blk_lt BKg.out)); have GEb := Aside0.mk ((by rw [hg]; exact HB.out.size) : w.heap.size ≤ b); have BKb := Aside0.mk hbox; clear hbox hg; have n0_ := Aside0.mk (below_step HB.out hb); have n1_ := Aside0.mk (blk_below BKg.out hb); clear HB BKg; have HB := n0_; have BKg := n1_; clear n0_ n1_; skip; clear hb)
    | ((with_reducible refine gate_dst (N := 30) rfl ?_); have hz := Fi.grown_set w3 g 10 (.slice Av L.length cv); have m1 : (w3.setCell ⟨g, 10, none⟩ (.slice Av L.length cv)).heap[g]? = some (.cells #[.int .i64 a0, .int .i64 a1, .int .i64 a2, .int .i64 a3, .int .i64 a4, .int .i64 a5, .int .i64 a6, .int .i64 a7, .int .i64 a8, .int .i64 a9, .slice Av L.length cv, .slice A11 l2.length c11, .slice A12 l3.length c12, .slice A13 l4.length c13] 31 (0, 0)) := blk_put BKg.out 10 _ rfl; have m2 := blk_grown BKb.out hz (fun he => NB.out (Option.some.inj he).symm); have m3 := HB.out.grown hz HB.out.size (fun k hk => by cases hk; exact GEg.out); have m4 := Kd.R_mono (ok' := fun _ => True) (Kd.R_grown (Kd.R_bound HO.out) hz (fun k hk he => by have h1 := hk.2.1; have h2 := HLG.out; cases he; exact absurd h1 (Nat.not_le_of_lt h2))) (fun _ _ => trivial); generalize (w3.setCell ⟨g, 10, none⟩ (.slice Av L.length cv)) = w5 at m1 m2 m3 m4 ⊢; clear hz BKg BKb HB HO; have BKg := Aside0.mk m1; have BKb := Aside0.mk m2; have HB := Aside0.mk m3; have HO := Aside0.mk m4; clear m1 m2 m3 m4; refine wpList_load_row rfl 31 _ rfl g rfl 31 _ (0, 0) _ BKg.out hu rfl Fi.size ?_)
    | (refine wpList_load_row rfl 31 _ rfl g rfl 31 _ (0, 0) _ BKg.out hu rfl Fi.size ?_)
    | (go_at_call 19; (with_reducible refine (Fi.right (Fi.V_below HV.out HB.out) hd).mono ?_); rintro r w2 ⟨rfl, hb⟩; have n0_ := Aside0.mk (below_step HB.out hb); have n1_ := Aside0.mk (blk_below BKg.out hb); have n2_ := Aside0.mk (blk_below BKb.out hb); clear HB BKg BKb; have HB := n0_; have BKg := n1_; have BKb := n2_; clear n0_ n1_ n2_; have cg_0 : w2.cell? ⟨g, 0, none⟩ = some (.int .i64 a0) := (blk_cell BKg.out 0).trans rfl; have cg_1 : w2.cell? ⟨g, 1, none⟩ = some (.int .i64 a1) := (blk_cell BKg.out 1).trans rfl; have cg_10 : w2.cell? ⟨g, 10, none⟩ = some (.slice A10 l1.length c10) := (blk_cell BKg.out 10).trans rfl; clear hb)
    | (go_at_call 31; (have HLG := Aside0.mk (blk_lt BKg.out)); (have HLO := Aside0.mk HB.out.size); (with_reducible refine (Fi.cputB (Kd.C_below G10.out HB.out) K10.out (Kd.C_below HR.out HB.out) HC.out hp.out HE.out).mono ?_); rintro r w3 ⟨v, rfl, ho, hb⟩; obtain ⟨Av, cv, ev⟩ := Kd.R_slice ho; subst ev; have HO := Aside0.mk ho; clear ho; have n0_ := Aside0.mk (below_step HB.out hb); have n1_ := Aside0.mk (blk_below BKg.out hb); have n2_ := Aside0.mk (blk_below BKb.out hb); clear HB BKg BKb; have HB := n0_; have BKg := n1_; have BKb := n2_; clear n0_ n1_ n2_; have cg_10 : w3.cell? ⟨g, 10, none⟩ = some (.slice A10 l1.length c10) := (blk_cell BKg.out 10).trans rfl; have fg_10 := blk_frozen BKg.out 10; clear hb)
    | (go_at_call 30; (have HLT := Aside0.mk (blk_lt BKb.out)); (have HLE := Aside0.mk HB.out.size); (with_reducible refine (Fi.told (Fi.mk2 (Kd.R_reads' HO.out).2.1 (Kd.R_reads' HO.out).2.2 K11.out (Kd.C_below G11.out HB.out) K12.out (Kd.C_below G12.out HB.out) K13.out (Kd.C_below G13.out HB.out)) E HF.out HY.out).mono ?_); rintro r w6 ⟨cs', rfl, hN, hb⟩; have HN := Aside0.mk hN; clear hN; have n0_ := Aside0.mk (below_step HB.out hb); have n1_ := Aside0.mk (blk_below BKb.out hb); clear HB BKb; have HB := n0_; have BKb := n1_; clear n0_ n1_; clear hb)
    | ((with_reducible refine gate_store rfl ?_); refine Fi.store_row rfl 31 _ _ rfl b cs' rfl rfl 31 _ BKb.out (by rw [Fi.V_size HN.out.V]; exact Fi.size) (by rw [Fi.V_size HN.out.V]; rfl) (Fi.V_one HN.out.V) ?_; intro w9 hg9 hgr; have n1_ := Aside0.mk (HB.out.grown hgr HB.out.size (fun k hk => by cases hk; exact GEb.out)); have n2_ := Aside0.mk (Fi.N_grown HN.out hgr HLT.out); clear HB HN BKb; have HB := n1_; have HN := n2_; have BKb := Aside0.mk hg9; clear n1_ n2_ hg9 hgr))
  refine bodyPost_ret (results_ct rfl _ _ b 31 cs' (0, 0) _ rfl BKb.out hu rfl (by rw [Fi.V_size HN.out.V]; exact Fi.size)) rfl ?_
  exact ⟨cs', rfl, Fi.N_lower HN.out HLE.out, HB.out⟩
set_option maxHeartbeats 4000000 in
set_option maxRecDepth 100000 in
theorem Fi.csetWords {w : World} {cs : Array Value} {x : S31} (h : Fi.V w cs x) {A : Option Addr} {c : Nat} {m : List Int} (hr : (Kd.int .u16).C w A m.length m) (hc : m.length ≤ c) {p : Int} (hp0 : I64 p) : Calls Try.prog 16 #[.agg cs, .int .i64 p, .slice A m.length c] w fun e w' => ∃ cs', e = .returned (.tuple #[.agg cs', .int .i64 (Fi.setWords x p m).2]) ∧ Fi.N w' w.heap.size cs' (Fi.setWords x p m).1 ∧ Below w.heap.size w w' := by
  obtain ⟨⟨⟨a0, a1⟩, ⟨a2, a3⟩, ⟨a4, a5⟩, ⟨a6, a7⟩, ⟨a8, a9⟩⟩, l1, l2, l3, l4⟩ := x
  have HV := Aside0.mk h
  obtain ⟨A10, c10, A11, c11, A12, c12, A13, c13, rfl, k10, g10, k11, g11, k12, g12, k13, g13⟩ := Fi.open2 h
  have K10 := Aside0.mk k10
  have G10 := Aside0.mk g10
  have K11 := Aside0.mk k11
  have G11 := Aside0.mk g11
  have K12 := Aside0.mk k12
  have G12 := Aside0.mk g12
  have K13 := Aside0.mk k13
  have G13 := Aside0.mk g13
  clear h k10 g10 k11 g11 k12 g12 k13 g13
  have hu := Try.underlying31
  have hu25 := Try.underlying25
  have hu23 := Try.underlying23
  have hz := Fi.zero
  have HB := Aside0.mk (Below.refl w.heap.size w)
  have hp := Aside0.mk hp0
  have HR := Aside0.mk hr
  have HC := Aside0.mk hc
  have hmm := Aside0.mk (show I64 (m.length : Int) from ⟨by omega, by have := hr.2.1; omega⟩)
  clear hp0 hr hc
  by_cases hP : Fi.P (⟨⟨⟨a0, a1⟩, ⟨a2, a3⟩, ⟨a4, a5⟩, ⟨a6, a7⟩, ⟨a8, a9⟩⟩, l1, l2, l3, l4⟩ : S31)
  rotate_left
  · have hd : decide (Fi.P (⟨⟨⟨a0, a1⟩, ⟨a2, a3⟩, ⟨a4, a5⟩, ⟨a6, a7⟩, ⟨a8, a9⟩⟩, l1, l2, l3, l4⟩ : S31)) = false := decide_eq_false hP
    rw [show Fi.setWords (⟨⟨⟨a0, a1⟩, ⟨a2, a3⟩, ⟨a4, a5⟩, ⟨a6, a7⟩, ⟨a8, a9⟩⟩, l1, l2, l3, l4⟩ : S31) p m = (z31, 11) from if_neg hP]
    clear hP
    go_enter Try.func16, Try.ntmps16
    go_wp2_with (first
      | ((with_reducible refine gate_dst (N := 3) rfl ?_); refine box_event ?hg (N := 3) ?hd (cs := #[.int .i64 a0, .int .i64 a1, .int .i64 a2, .int .i64 a3, .int .i64 a4, .int .i64 a5, .int .i64 a6, .int .i64 a7, .int .i64 a8, .int .i64 a9, .slice A10 l1.length c10, .slice A11 l2.length c11, .slice A12 l3.length c12, .slice A13 l4.length c13]) (t := 31) ?hr ?_; (case hd => rfl); (case hg => rfl); (case hr => first | (go_simp; done) | (go_simp; rfl)); intro g hg w1 hbox hb; have GEg := Aside0.mk ((by rw [hg]; exact HB.out.size) : w.heap.size ≤ g); have BKg := Aside0.mk hbox; clear hbox hg; have n0_ := Aside0.mk (below_step HB.out hb); clear HB; have HB := n0_; clear n0_; skip; clear hb)
      | ((with_reducible refine gate_dst (N := 6) rfl ?_); refine box_event ?hg (N := 6) ?hd (cs := #[.int .i64 0, .int .i64 0, .int .i64 0, .int .i64 0, .int .i64 0, .int .i64 0, .int .i64 0, .int .i64 0, .int .i64 0, .int .i64 0, .slice none 0 0, .slice none 0 0, .slice none 0 0, .slice none 0 0]) (t := 31) ?hr ?_; (case hd => rfl); (case hg => rfl); (case hr => first | (go_simp; done) | (go_simp; rfl)); intro b hg w1b hbox hb; have NB := Aside0.mk (show g ≠ b by rw [hg]; exact Nat.ne_of_lt (blk_lt BKg.out)); have GEb := Aside0.mk ((by rw [hg]; exact HB.out.size) : w.heap.size ≤ b); have BKb := Aside0.mk hbox; clear hbox hg; have n0_ := Aside0.mk (below_step HB.out hb); have n1_ := Aside0.mk (blk_below BKg.out hb); clear HB BKg; have HB := n0_; have BKg := n1_; clear n0_ n1_; skip; clear hb)
      | (refine wpList_load_row rfl 31 _ rfl g rfl 31 _ (0, 0) _ BKg.out hu rfl Fi.size ?_)
      | (go_at_call 19; (with_reducible refine (Fi.right (Fi.V_below HV.out HB.out) hd).mono ?_); rintro r w2 ⟨rfl, hb⟩; have n0_ := Aside0.mk (below_step HB.out hb); have n1_ := Aside0.mk (blk_below BKg.out hb); have n2_ := Aside0.mk (blk_below BKb.out hb); clear HB BKg BKb; have HB := n0_; have BKg := n1_; have BKb := n2_; clear n0_ n1_ n2_; clear hb)
      | (go_at_call 30; (have HLT := Aside0.mk (blk_lt BKb.out)); (have HLE := Aside0.mk HB.out.size); (with_reducible refine (Fi.told (Fi.V_below HV.out HB.out) 11 (fun he => absurd he (by decide)) (if_neg (by decide))).mono ?_); rintro r w3 ⟨cs', rfl, hN, hb⟩; have HN := Aside0.mk hN; clear hN; have n0_ := Aside0.mk (below_step HB.out hb); have n1_ := Aside0.mk (blk_below BKb.out hb); clear HB BKb; have HB := n0_; have BKb := n1_; clear n0_ n1_; clear hb)
      | ((with_reducible refine gate_store rfl ?_); refine Fi.store_row rfl 31 _ _ rfl b cs' rfl rfl 31 _ BKb.out (by rw [Fi.V_size HN.out.V]; exact Fi.size) (by rw [Fi.V_size HN.out.V]; rfl) (Fi.V_one HN.out.V) ?_; intro w9 hg9 hgr; have n1_ := Aside0.mk (HB.out.grown hgr HB.out.size (fun k hk => by cases hk; exact GEb.out)); have n2_ := Aside0.mk (Fi.N_grown HN.out hgr HLT.out); clear HB HN BKb; have HB := n1_; have HN := n2_; have BKb := Aside0.mk hg9; clear n1_ n2_ hg9 hgr))
    refine bodyPost_ret (results_ct rfl _ _ b 31 cs' (0, 0) _ rfl BKb.out hu rfl (by rw [Fi.V_size HN.out.V]; exact Fi.size)) rfl ?_
    exact ⟨cs', rfl, Fi.N_lower HN.out HLE.out, HB.out⟩
  have hd : decide (Fi.P (⟨⟨⟨a0, a1⟩, ⟨a2, a3⟩, ⟨a4, a5⟩, ⟨a6, a7⟩, ⟨a8, a9⟩⟩, l1, l2, l3, l4⟩ : S31)) = true := decide_eq_true hP
  obtain ⟨L, E, HE0⟩ : ∃ L E, writeS a4 a5 l3 p m = (L, E) := ⟨_, _, rfl⟩
  have HF := Aside0.mk (show E = 0 → Fi.Fit (⟨⟨⟨a0, a1⟩, ⟨a2, a3⟩, ⟨a4, a5⟩, ⟨a6, a7⟩, ⟨a8, a9⟩⟩, l1, l2, L, l4⟩ : S31) from fun he => by
    subst he
    have h1 := (Fi.write_len HE0).1
    have h2 := Fi.P_fit hP
    unfold Fi.Fit
    simp only at h2 ⊢
    omega)
  have hW : Fi.setWords (⟨⟨⟨a0, a1⟩, ⟨a2, a3⟩, ⟨a4, a5⟩, ⟨a6, a7⟩, ⟨a8, a9⟩⟩, l1, l2, l3, l4⟩ : S31) p m = (if E = 0 then (if MeetsP a8 a9 p m.length then (z31, 4) else ((⟨⟨⟨a0, a1⟩, ⟨a2, a3⟩, ⟨a4, a5⟩, ⟨a6, a7⟩, ⟨a8, a9⟩⟩, l1, l2, L, l4⟩ : S31), 0)) else (z31, E)) := by
    unfold Fi.setWords
    rw [if_pos hP]
    simp only [HE0]
  rw [hW]
  have HE := Aside0.mk HE0
  clear HE0 hP hW
  by_cases hE : E = 0
  · subst hE
    rw [if_pos rfl]
    by_cases hM : MeetsP a8 a9 p m.length
    · have hm : decide (MeetsP a8 a9 p m.length) = true := decide_eq_true hM
      rw [if_pos hM]
      clear hM
      go_enter Try.func16, Try.ntmps16
      go_wp2_with (first
        | ((with_reducible refine gate_dst (N := 3) rfl ?_); refine box_event ?hg (N := 3) ?hd (cs := #[.int .i64 a0, .int .i64 a1, .int .i64 a2, .int .i64 a3, .int .i64 a4, .int .i64 a5, .int .i64 a6, .int .i64 a7, .int .i64 a8, .int .i64 a9, .slice A10 l1.length c10, .slice A11 l2.length c11, .slice A12 l3.length c12, .slice A13 l4.length c13]) (t := 31) ?hr ?_; (case hd => rfl); (case hg => rfl); (case hr => first | (go_simp; done) | (go_simp; rfl)); intro g hg w1 hbox hb; have GEg := Aside0.mk ((by rw [hg]; exact HB.out.size) : w.heap.size ≤ g); have BKg := Aside0.mk hbox; clear hbox hg; have n0_ := Aside0.mk (below_step HB.out hb); clear HB; have HB := n0_; clear n0_; skip; clear hb)
        | ((with_reducible refine gate_dst (N := 6) rfl ?_); refine box_event ?hg (N := 6) ?hd (cs := #[.int .i64 0, .int .i64 0, .int .i64 0, .int .i64 0, .int .i64 0, .int .i64 0, .int .i64 0, .int .i64 0, .int .i64 0, .int .i64 0, .slice none 0 0, .slice none 0 0, .slice none 0 0, .slice none 0 0]) (t := 31) ?hr ?_; (case hd => rfl); (case hg => rfl); (case hr => first | (go_simp; done) | (go_simp; rfl)); intro b hg w1b hbox hb; have NB := Aside0.mk (show g ≠ b by rw [hg]; exact Nat.ne_of_lt (blk_lt BKg.out)); have GEb := Aside0.mk ((by rw [hg]; exact HB.out.size) : w.heap.size ≤ b); have BKb := Aside0.mk hbox; clear hbox hg; have n0_ := Aside0.mk (below_step HB.out hb); have n1_ := Aside0.mk (blk_below BKg.out hb); clear HB BKg; have HB := n0_; have BKg := n1_; clear n0_ n1_; skip; clear hb)
        | ((with_reducible refine gate_dst (N := 41) rfl ?_); have hz := Fi.grown_set w4 g 12 (.slice Av L.length cv); have m1 : (w4.setCell ⟨g, 12, none⟩ (.slice Av L.length cv)).heap[g]? = some (.cells #[.int .i64 a0, .int .i64 a1, .int .i64 a2, .int .i64 a3, .int .i64 a4, .int .i64 a5, .int .i64 a6, .int .i64 a7, .int .i64 a8, .int .i64 a9, .slice A10 l1.length c10, .slice A11 l2.length c11, .slice Av L.length cv, .slice A13 l4.length c13] 31 (0, 0)) := blk_put BKg.out 12 _ rfl; have m2 := blk_grown BKb.out hz (fun he => NB.out (Option.some.inj he).symm); have m3 := HB.out.grown hz HB.out.size (fun k hk => by cases hk; exact GEg.out); have m4 := Kd.R_mono (ok' := fun _ => True) (Kd.R_grown (Kd.R_bound HO.out) hz (fun k hk he => by have h1 := hk.2.1; have h2 := HLG.out; cases he; exact absurd h1 (Nat.not_le_of_lt h2))) (fun _ _ => trivial); generalize (w4.setCell ⟨g, 12, none⟩ (.slice Av L.length cv)) = w5 at m1 m2 m3 m4 ⊢; clear hz BKg BKb HB HO; have BKg := Aside0.mk m1; have BKb := Aside0.mk m2; have HB := Aside0.mk m3; have HO := Aside0.mk m4; clear m1 m2 m3 m4; refine wpList_load_row rfl 31 _ rfl g rfl 31 _ (0, 0) _ BKg.out hu rfl Fi.size ?_)
        | (refine wpList_load_row rfl 31 _ rfl g rfl 31 _ (0, 0) _ BKg.out hu rfl Fi.size ?_)
        | (go_at_call 19; (with_reducible refine (Fi.right (Fi.V_below HV.out HB.out) hd).mono ?_); rintro r w2 ⟨rfl, hb⟩; have n0_ := Aside0.mk (below_step HB.out hb); have n1_ := Aside0.mk (blk_below BKg.out hb); have n2_ := Aside0.mk (blk_below BKb.out hb); clear HB BKg BKb; have HB := n0_; have BKg := n1_; have BKb := n2_; clear n0_ n1_ n2_; have cg_4 : w2.cell? ⟨g, 4, none⟩ = some (.int .i64 a4) := (blk_cell BKg.out 4).trans rfl; have cg_5 : w2.cell? ⟨g, 5, none⟩ = some (.int .i64 a5) := (blk_cell BKg.out 5).trans rfl; have cg_12 : w2.cell? ⟨g, 12, none⟩ = some (.slice A12 l3.length c12) := (blk_cell BKg.out 12).trans rfl; clear hb)
        | (go_at_call 33; (have HLG := Aside0.mk (blk_lt BKg.out)); (have HLO := Aside0.mk HB.out.size); (with_reducible refine (Fi.cputW (Kd.C_below G12.out HB.out) K12.out (Kd.C_below HR.out HB.out) HC.out hp.out HE.out).mono ?_); rintro r w3 ⟨v, rfl, ho, hb⟩; obtain ⟨Av, cv, ev⟩ := Kd.R_slice ho; subst ev; have HO := Aside0.mk ho; clear ho; have n0_ := Aside0.mk (below_step HB.out hb); have n1_ := Aside0.mk (blk_below BKg.out hb); have n2_ := Aside0.mk (blk_below BKb.out hb); clear HB BKg BKb; have HB := n0_; have BKg := n1_; have BKb := n2_; clear n0_ n1_ n2_; have cg_8 : w3.cell? ⟨g, 8, none⟩ = some (.int .i64 a8) := (blk_cell BKg.out 8).trans rfl; have cg_9 : w3.cell? ⟨g, 9, none⟩ = some (.int .i64 a9) := (blk_cell BKg.out 9).trans rfl; have cg_12 : w3.cell? ⟨g, 12, none⟩ = some (.slice A12 l3.length c12) := (blk_cell BKg.out 12).trans rfl; have fg_12 := blk_frozen BKg.out 12; clear hb)
        | (go_at_call 34; (with_reducible refine (Fi.cmeets hp.out hmm.out hm _).mono ?_); rintro r w4 ⟨rfl, hb⟩; have n0_ := Aside0.mk (below_step HB.out hb); have n1_ := Aside0.mk (blk_below BKg.out hb); have n2_ := Aside0.mk (blk_below BKb.out hb); have n3_ := Aside0.mk (Kd.R_below HO.out hb); clear HB BKg BKb HO; have HB := n0_; have BKg := n1_; have BKb := n2_; have HO := n3_; clear n0_ n1_ n2_ n3_; have cg_12 : w4.cell? ⟨g, 12, none⟩ = some (.slice A12 l3.length c12) := (blk_cell BKg.out 12).trans rfl; have fg_12 := blk_frozen BKg.out 12; clear hb)
        | (go_at_call 30; (have HLT := Aside0.mk (blk_lt BKb.out)); (have HLE := Aside0.mk HB.out.size); (with_reducible refine (Fi.told (Fi.mk2 K10.out (Kd.C_below G10.out HB.out) K11.out (Kd.C_below G11.out HB.out) (Kd.R_reads' HO.out).2.1 (Kd.R_reads' HO.out).2.2 K13.out (Kd.C_below G13.out HB.out)) 4 (fun he => absurd he (by decide)) (if_neg (by decide))).mono ?_); rintro r w6 ⟨cs', rfl, hN, hb⟩; have HN := Aside0.mk hN; clear hN; have n0_ := Aside0.mk (below_step HB.out hb); have n1_ := Aside0.mk (blk_below BKb.out hb); clear HB BKb; have HB := n0_; have BKb := n1_; clear n0_ n1_; clear hb)
        | ((with_reducible refine gate_store rfl ?_); refine Fi.store_row rfl 31 _ _ rfl b cs' rfl rfl 31 _ BKb.out (by rw [Fi.V_size HN.out.V]; exact Fi.size) (by rw [Fi.V_size HN.out.V]; rfl) (Fi.V_one HN.out.V) ?_; intro w9 hg9 hgr; have n1_ := Aside0.mk (HB.out.grown hgr HB.out.size (fun k hk => by cases hk; exact GEb.out)); have n2_ := Aside0.mk (Fi.N_grown HN.out hgr HLT.out); clear HB HN BKb; have HB := n1_; have HN := n2_; have BKb := Aside0.mk hg9; clear n1_ n2_ hg9 hgr))
      refine bodyPost_ret (results_ct rfl _ _ b 31 cs' (0, 0) _ rfl BKb.out hu rfl (by rw [Fi.V_size HN.out.V]; exact Fi.size)) rfl ?_
      exact ⟨cs', rfl, Fi.N_lower HN.out HLE.out, HB.out⟩
    · have hm : decide (MeetsP a8 a9 p m.length) = false := decide_eq_false hM
      rw [if_neg hM]
      clear hM
      go_enter Try.func16, Try.ntmps16
      go_wp2_with (first
        | ((with_reducible refine gate_dst (N := 3) rfl ?_); refine box_event ?hg (N := 3) ?hd (cs := #[.int .i64 a0, .int .i64 a1, .int .i64 a2, .int .i64 a3, .int .i64 a4, .int .i64 a5, .int .i64 a6, .int .i64 a7, .int .i64 a8, .int .i64 a9, .slice A10 l1.length c10, .slice A11 l2.length c11, .slice A12 l3.length c12, .slice A13 l4.length c13]) (t := 31) ?hr ?_; (case hd => rfl); (case hg => rfl); (case hr => first | (go_simp; done) | (go_simp; rfl)); intro g hg w1 hbox hb; have GEg := Aside0.mk ((by rw [hg]; exact HB.out.size) : w.heap.size ≤ g); have BKg := Aside0.mk hbox; clear hbox hg; have n0_ := Aside0.mk (below_step HB.out hb); clear HB; have HB := n0_; clear n0_; skip; clear hb)
        | ((with_reducible refine gate_dst (N := 6) rfl ?_); refine box_event ?hg (N := 6) ?hd (cs := #[.int .i64 0, .int .i64 0, .int .i64 0, .int .i64 0, .int .i64 0, .int .i64 0, .int .i64 0, .int .i64 0, .int .i64 0, .int .i64 0, .slice none 0 0, .slice none 0 0, .slice none 0 0, .slice none 0 0]) (t := 31) ?hr ?_; (case hd => rfl); (case hg => rfl); (case hr => first | (go_simp; done) | (go_simp; rfl)); intro b hg w1b hbox hb; have NB := Aside0.mk (show g ≠ b by rw [hg]; exact Nat.ne_of_lt (blk_lt BKg.out)); have GEb := Aside0.mk ((by rw [hg]; exact HB.out.size) : w.heap.size ≤ b); have BKb := Aside0.mk hbox; clear hbox hg; have n0_ := Aside0.mk (below_step HB.out hb); have n1_ := Aside0.mk (blk_below BKg.out hb); clear HB BKg; have HB := n0_; have BKg := n1_; clear n0_ n1_; skip; clear hb)
        | ((with_reducible refine gate_dst (N := 41) rfl ?_); have hz := Fi.grown_set w4 g 12 (.slice Av L.length cv); have m1 : (w4.setCell ⟨g, 12, none⟩ (.slice Av L.length cv)).heap[g]? = some (.cells #[.int .i64 a0, .int .i64 a1, .int .i64 a2, .int .i64 a3, .int .i64 a4, .int .i64 a5, .int .i64 a6, .int .i64 a7, .int .i64 a8, .int .i64 a9, .slice A10 l1.length c10, .slice A11 l2.length c11, .slice Av L.length cv, .slice A13 l4.length c13] 31 (0, 0)) := blk_put BKg.out 12 _ rfl; have m2 := blk_grown BKb.out hz (fun he => NB.out (Option.some.inj he).symm); have m3 := HB.out.grown hz HB.out.size (fun k hk => by cases hk; exact GEg.out); have m4 := Kd.R_mono (ok' := fun _ => True) (Kd.R_grown (Kd.R_bound HO.out) hz (fun k hk he => by have h1 := hk.2.1; have h2 := HLG.out; cases he; exact absurd h1 (Nat.not_le_of_lt h2))) (fun _ _ => trivial); generalize (w4.setCell ⟨g, 12, none⟩ (.slice Av L.length cv)) = w5 at m1 m2 m3 m4 ⊢; clear hz BKg BKb HB HO; have BKg := Aside0.mk m1; have BKb := Aside0.mk m2; have HB := Aside0.mk m3; have HO := Aside0.mk m4; clear m1 m2 m3 m4; refine wpList_load_row rfl 31 _ rfl g rfl 31 _ (0, 0) _ BKg.out hu rfl Fi.size ?_)
        | (refine wpList_load_row rfl 31 _ rfl g rfl 31 _ (0, 0) _ BKg.out hu rfl Fi.size ?_)
        | (go_at_call 19; (with_reducible refine (Fi.right (Fi.V_below HV.out HB.out) hd).mono ?_); rintro r w2 ⟨rfl, hb⟩; have n0_ := Aside0.mk (below_step HB.out hb); have n1_ := Aside0.mk (blk_below BKg.out hb); have n2_ := Aside0.mk (blk_below BKb.out hb); clear HB BKg BKb; have HB := n0_; have BKg := n1_; have BKb := n2_; clear n0_ n1_ n2_; have cg_4 : w2.cell? ⟨g, 4, none⟩ = some (.int .i64 a4) := (blk_cell BKg.out 4).trans rfl; have cg_5 : w2.cell? ⟨g, 5, none⟩ = some (.int .i64 a5) := (blk_cell BKg.out 5).trans rfl; have cg_12 : w2.cell? ⟨g, 12, none⟩ = some (.slice A12 l3.length c12) := (blk_cell BKg.out 12).trans rfl; clear hb)
        | (go_at_call 33; (have HLG := Aside0.mk (blk_lt BKg.out)); (have HLO := Aside0.mk HB.out.size); (with_reducible refine (Fi.cputW (Kd.C_below G12.out HB.out) K12.out (Kd.C_below HR.out HB.out) HC.out hp.out HE.out).mono ?_); rintro r w3 ⟨v, rfl, ho, hb⟩; obtain ⟨Av, cv, ev⟩ := Kd.R_slice ho; subst ev; have HO := Aside0.mk ho; clear ho; have n0_ := Aside0.mk (below_step HB.out hb); have n1_ := Aside0.mk (blk_below BKg.out hb); have n2_ := Aside0.mk (blk_below BKb.out hb); clear HB BKg BKb; have HB := n0_; have BKg := n1_; have BKb := n2_; clear n0_ n1_ n2_; have cg_8 : w3.cell? ⟨g, 8, none⟩ = some (.int .i64 a8) := (blk_cell BKg.out 8).trans rfl; have cg_9 : w3.cell? ⟨g, 9, none⟩ = some (.int .i64 a9) := (blk_cell BKg.out 9).trans rfl; have cg_12 : w3.cell? ⟨g, 12, none⟩ = some (.slice A12 l3.length c12) := (blk_cell BKg.out 12).trans rfl; have fg_12 := blk_frozen BKg.out 12; clear hb)
        | (go_at_call 34; (with_reducible refine (Fi.cmeets hp.out hmm.out hm _).mono ?_); rintro r w4 ⟨rfl, hb⟩; have n0_ := Aside0.mk (below_step HB.out hb); have n1_ := Aside0.mk (blk_below BKg.out hb); have n2_ := Aside0.mk (blk_below BKb.out hb); have n3_ := Aside0.mk (Kd.R_below HO.out hb); clear HB BKg BKb HO; have HB := n0_; have BKg := n1_; have BKb := n2_; have HO := n3_; clear n0_ n1_ n2_ n3_; have cg_12 : w4.cell? ⟨g, 12, none⟩ = some (.slice A12 l3.length c12) := (blk_cell BKg.out 12).trans rfl; have fg_12 := blk_frozen BKg.out 12; clear hb)
        | (go_at_call 30; (have HLT := Aside0.mk (blk_lt BKb.out)); (have HLE := Aside0.mk HB.out.size); (with_reducible refine (Fi.told (Fi.mk2 K10.out (Kd.C_below G10.out HB.out) K11.out (Kd.C_below G11.out HB.out) (Kd.R_reads' HO.out).2.1 (Kd.R_reads' HO.out).2.2 K13.out (Kd.C_below G13.out HB.out)) 0 (fun _ => HF.out (by first | trivial | rfl)) (if_pos (by decide))).mono ?_); rintro r w6 ⟨cs', rfl, hN, hb⟩; have HN := Aside0.mk hN; clear hN; have n0_ := Aside0.mk (below_step HB.out hb); have n1_ := Aside0.mk (blk_below BKb.out hb); clear HB BKb; have HB := n0_; have BKb := n1_; clear n0_ n1_; clear hb)
        | ((with_reducible refine gate_store rfl ?_); refine Fi.store_row rfl 31 _ _ rfl b cs' rfl rfl 31 _ BKb.out (by rw [Fi.V_size HN.out.V]; exact Fi.size) (by rw [Fi.V_size HN.out.V]; rfl) (Fi.V_one HN.out.V) ?_; intro w9 hg9 hgr; have n1_ := Aside0.mk (HB.out.grown hgr HB.out.size (fun k hk => by cases hk; exact GEb.out)); have n2_ := Aside0.mk (Fi.N_grown HN.out hgr HLT.out); clear HB HN BKb; have HB := n1_; have HN := n2_; have BKb := Aside0.mk hg9; clear n1_ n2_ hg9 hgr))
      refine bodyPost_ret (results_ct rfl _ _ b 31 cs' (0, 0) _ rfl BKb.out hu rfl (by rw [Fi.V_size HN.out.V]; exact Fi.size)) rfl ?_
      exact ⟨cs', rfl, Fi.N_lower HN.out HLE.out, HB.out⟩
  · rw [if_neg hE]
    have hq : (E == 0) = false := by simpa using hE
    have HNE := Aside0.mk hE
    clear hE
    go_enter Try.func16, Try.ntmps16
    go_wp2_with (first
      | ((with_reducible refine gate_dst (N := 3) rfl ?_); refine box_event ?hg (N := 3) ?hd (cs := #[.int .i64 a0, .int .i64 a1, .int .i64 a2, .int .i64 a3, .int .i64 a4, .int .i64 a5, .int .i64 a6, .int .i64 a7, .int .i64 a8, .int .i64 a9, .slice A10 l1.length c10, .slice A11 l2.length c11, .slice A12 l3.length c12, .slice A13 l4.length c13]) (t := 31) ?hr ?_; (case hd => rfl); (case hg => rfl); (case hr => first | (go_simp; done) | (go_simp; rfl)); intro g hg w1 hbox hb; have GEg := Aside0.mk ((by rw [hg]; exact HB.out.size) : w.heap.size ≤ g); have BKg := Aside0.mk hbox; clear hbox hg; have n0_ := Aside0.mk (below_step HB.out hb); clear HB; have HB := n0_; clear n0_; skip; clear hb)
      | ((with_reducible refine gate_dst (N := 6) rfl ?_); refine box_event ?hg (N := 6) ?hd (cs := #[.int .i64 0, .int .i64 0, .int .i64 0, .int .i64 0, .int .i64 0, .int .i64 0, .int .i64 0, .int .i64 0, .int .i64 0, .int .i64 0, .slice none 0 0, .slice none 0 0, .slice none 0 0, .slice none 0 0]) (t := 31) ?hr ?_; (case hd => rfl); (case hg => rfl); (case hr => first | (go_simp; done) | (go_simp; rfl)); intro b hg w1b hbox hb; have NB := Aside0.mk (show g ≠ b by rw [hg]; exact Nat.ne_of_lt (blk_lt BKg.out)); have GEb := Aside0.mk ((by rw [hg]; exact HB.out.size) : w.heap.size ≤ b); have BKb := Aside0.mk hbox; clear hbox hg; have n0_ := Aside0.mk (below_step HB.out hb); have n1_ := Aside0.mk (blk_below BKg.out hb); clear HB BKg; have HB := n0_; have BKg := n1_; clear n0_ n1_; skip; clear hb)
      | ((with_reducible refine gate_dst (N := 41) rfl ?_); have hz := Fi.grown_set w3 g 12 (.slice Av L.length cv); have m1 : (w3.setCell ⟨g, 12, none⟩ (.slice Av L.length cv)).heap[g]? = some (.cells #[.int .i64 a0, .int .i64 a1, .int .i64 a2, .int .i64 a3, .int .i64 a4, .int .i64 a5, .int .i64 a6, .int .i64 a7, .int .i64 a8, .int .i64 a9, .slice A10 l1.length c10, .slice A11 l2.length c11, .slice Av L.length cv, .slice A13 l4.length c13] 31 (0, 0)) := blk_put BKg.out 12 _ rfl; have m2 := blk_grown BKb.out hz (fun he => NB.out (Option.some.inj he).symm); have m3 := HB.out.grown hz HB.out.size (fun k hk => by cases hk; exact GEg.out); have m4 := Kd.R_mono (ok' := fun _ => True) (Kd.R_grown (Kd.R_bound HO.out) hz (fun k hk he => by have h1 := hk.2.1; have h2 := HLG.out; cases he; exact absurd h1 (Nat.not_le_of_lt h2))) (fun _ _ => trivial); generalize (w3.setCell ⟨g, 12, none⟩ (.slice Av L.length cv)) = w5 at m1 m2 m3 m4 ⊢; clear hz BKg BKb HB HO; have BKg := Aside0.mk m1; have BKb := Aside0.mk m2; have HB := Aside0.mk m3; have HO := Aside0.mk m4; clear m1 m2 m3 m4; refine wpList_load_row rfl 31 _ rfl g rfl 31 _ (0, 0) _ BKg.out hu rfl Fi.size ?_)
      | (refine wpList_load_row rfl 31 _ rfl g rfl 31 _ (0, 0) _ BKg.out hu rfl Fi.size ?_)
      | (go_at_call 19; (with_reducible refine (Fi.right (Fi.V_below HV.out HB.out) hd).mono ?_); rintro r w2 ⟨rfl, hb⟩; have n0_ := Aside0.mk (below_step HB.out hb); have n1_ := Aside0.mk (blk_below BKg.out hb); have n2_ := Aside0.mk (blk_below BKb.out hb); clear HB BKg BKb; have HB := n0_; have BKg := n1_; have BKb := n2_; clear n0_ n1_ n2_; have cg_4 : w2.cell? ⟨g, 4, none⟩ = some (.int .i64 a4) := (blk_cell BKg.out 4).trans rfl; have cg_5 : w2.cell? ⟨g, 5, none⟩ = some (.int .i64 a5) := (blk_cell BKg.out 5).trans rfl; have cg_12 : w2.cell? ⟨g, 12, none⟩ = some (.slice A12 l3.length c12) := (blk_cell BKg.out 12).trans rfl; clear hb)
      | (go_at_call 33; (have HLG := Aside0.mk (blk_lt BKg.out)); (have HLO := Aside0.mk HB.out.size); (with_reducible refine (Fi.cputW (Kd.C_below G12.out HB.out) K12.out (Kd.C_below HR.out HB.out) HC.out hp.out HE.out).mono ?_); rintro r w3 ⟨v, rfl, ho, hb⟩; obtain ⟨Av, cv, ev⟩ := Kd.R_slice ho; subst ev; have HO := Aside0.mk ho; clear ho; have n0_ := Aside0.mk (below_step HB.out hb); have n1_ := Aside0.mk (blk_below BKg.out hb); have n2_ := Aside0.mk (blk_below BKb.out hb); clear HB BKg BKb; have HB := n0_; have BKg := n1_; have BKb := n2_; clear n0_ n1_ n2_; have cg_12 : w3.cell? ⟨g, 12, none⟩ = some (.slice A12 l3.length c12) := (blk_cell BKg.out 12).trans rfl; have fg_12 := blk_frozen BKg.out 12; clear hb)
      | (go_at_call 30; (have HLT := Aside0.mk (blk_lt BKb.out)); (have HLE := Aside0.mk HB.out.size); (with_reducible refine (Fi.told (Fi.mk2 K10.out (Kd.C_below G10.out HB.out) K11.out (Kd.C_below G11.out HB.out) (Kd.R_reads' HO.out).2.1 (Kd.R_reads' HO.out).2.2 K13.out (Kd.C_below G13.out HB.out)) E (fun he => absurd he HNE.out) (if_neg HNE.out)).mono ?_); rintro r w6 ⟨cs', rfl, hN, hb⟩; have HN := Aside0.mk hN; clear hN; have n0_ := Aside0.mk (below_step HB.out hb); have n1_ := Aside0.mk (blk_below BKb.out hb); clear HB BKb; have HB := n0_; have BKb := n1_; clear n0_ n1_; clear hb)
      | ((with_reducible refine gate_store rfl ?_); refine Fi.store_row rfl 31 _ _ rfl b cs' rfl rfl 31 _ BKb.out (by rw [Fi.V_size HN.out.V]; exact Fi.size) (by rw [Fi.V_size HN.out.V]; rfl) (Fi.V_one HN.out.V) ?_; intro w9 hg9 hgr; have n1_ := Aside0.mk (HB.out.grown hgr HB.out.size (fun k hk => by cases hk; exact GEb.out)); have n2_ := Aside0.mk (Fi.N_grown HN.out hgr HLT.out); clear HB HN BKb; have HB := n1_; have HN := n2_; have BKb := Aside0.mk hg9; clear n1_ n2_ hg9 hgr))
    refine bodyPost_ret (results_ct rfl _ _ b 31 cs' (0, 0) _ rfl BKb.out hu rfl (by rw [Fi.V_size HN.out.V]; exact Fi.size)) rfl ?_
    exact ⟨cs', rfl, Fi.N_lower HN.out HLE.out, HB.out⟩

theorem Fi.and16 (n : Int) : IntKind.u16.wrap (Go.bits .and .i64 n 65535) = n % 65536 := by
  have h1 : (BitVec.ofInt 64 65535).toNat = 2 ^ 16 - 1 := by decide
  have key : (BitVec.ofInt 64 n &&& BitVec.ofInt 64 65535).toNat = (n % ((2 ^ 64 : Nat) : Int)).toNat % 2 ^ 16 := by
    rw [BitVec.toNat_and, BitVec.toNat_ofInt, h1, Nat.and_two_pow_sub_one_eq_mod]
  have h2 : Go.bits .and .i64 n 65535 = n % 65536 := by
    show IntKind.i64.wrap ((BitVec.ofInt 64 n &&& BitVec.ofInt 64 65535).toNat : Nat) = n % 65536
    rw [key, IntKind.wrap_i64]
    omega
  rw [h2, u16w]
  omega
set_option maxHeartbeats 4000000 in
set_option maxRecDepth 100000 in
theorem Fi.csense {w : World} {cs : Array Value} {x : S31} (h : Fi.V w cs x) (ws : Bool) {p v : Int} (hp0 : I64 p) (hv0 : I64 v) : Calls Try.prog 20 #[.agg cs, .bool ws, .int .i64 p, .int .i64 v] w fun e w' => ∃ cs', e = .returned (.tuple #[.agg cs', .int .i64 (Fi.sense x ws p v).2]) ∧ Fi.N w' w.heap.size cs' (Fi.sense x ws p v).1 ∧ Below w.heap.size w w' := by
  obtain ⟨⟨⟨a0, a1⟩, ⟨a2, a3⟩, ⟨a4, a5⟩, ⟨a6, a7⟩, ⟨a8, a9⟩⟩, l1, l2, l3, l4⟩ := x
  have HV := Aside0.mk h
  obtain ⟨A10, c10, A11, c11, A12, c12, A13, c13, rfl, k10, g10, k11, g11, k12, g12, k13, g13⟩ := Fi.open2 h
  have K10 := Aside0.mk k10
  have G10 := Aside0.mk g10
  have K11 := Aside0.mk k11
  have G11 := Aside0.mk g11
  have K12 := Aside0.mk k12
  have G12 := Aside0.mk g12
  have K13 := Aside0.mk k13
  have G13 := Aside0.mk g13
  clear h k10 g10 k11 g11 k12 g12 k13 g13
  have hu := Try.underlying31
  have hu25 := Try.underlying25
  have hu23 := Try.underlying23
  have hz := Fi.zero
  have HB := Aside0.mk (Below.refl w.heap.size w)
  have hp := Aside0.mk hp0
  have hvv := Aside0.mk hv0
  clear hp0 hv0
  by_cases hP : Fi.P (⟨⟨⟨a0, a1⟩, ⟨a2, a3⟩, ⟨a4, a5⟩, ⟨a6, a7⟩, ⟨a8, a9⟩⟩, l1, l2, l3, l4⟩ : S31)
  rotate_left
  · have hd : decide (Fi.P (⟨⟨⟨a0, a1⟩, ⟨a2, a3⟩, ⟨a4, a5⟩, ⟨a6, a7⟩, ⟨a8, a9⟩⟩, l1, l2, l3, l4⟩ : S31)) = false := decide_eq_false hP
    rw [show Fi.sense (⟨⟨⟨a0, a1⟩, ⟨a2, a3⟩, ⟨a4, a5⟩, ⟨a6, a7⟩, ⟨a8, a9⟩⟩, l1, l2, l3, l4⟩ : S31) ws p v = (z31, 11) from if_neg hP]
    clear hP
    go_enter Try.func20, Try.ntmps20
    go_wp2_with (first
      | ((with_reducible refine gate_dst (N := 4) rfl ?_); refine box_event ?hg (N := 4) ?hd (cs := #[.int .i64 a0, .int .i64 a1, .int .i64 a2, .int .i64 a3, .int .i64 a4, .int .i64 a5, .int .i64 a6, .int .i64 a7, .int .i64 a8, .int .i64 a9, .slice A10 l1.length c10, .slice A11 l2.length c11, .slice A12 l3.length c12, .slice A13 l4.length c13]) (t := 31) ?hr ?_; (case hd => rfl); (case hg => rfl); (case hr => first | (go_simp; done) | (go_simp; rfl)); intro g hg w1 hbox hb; have GEg := Aside0.mk ((by rw [hg]; exact HB.out.size) : w.heap.size ≤ g); have BKg := Aside0.mk hbox; clear hbox hg; have n0_ := Aside0.mk (below_step HB.out hb); clear HB; have HB := n0_; clear n0_; skip; clear hb)
      | ((with_reducible refine gate_dst (N := 8) rfl ?_); refine box_event ?hg (N := 8) ?hd (cs := #[.int .i64 0, .int .i64 0, .int .i64 0, .int .i64 0, .int .i64 0, .int .i64 0, .int .i64 0, .int .i64 0, .int .i64 0, .int .i64 0, .slice none 0 0, .slice none 0 0, .slice none 0 0, .slice none 0 0]) (t := 31) ?hr ?_; (case hd => rfl); (case hg => rfl); (case hr => first | (go_simp; done) | (go_simp; rfl)); intro b hg w1b hbox hb; have NB := Aside0.mk (show g ≠ b by rw [hg]; exact Nat.ne_of_lt (blk_lt BKg.out)); have GEb := Aside0.mk ((by rw [hg]; exact HB.out.size) : w.heap.size ≤ b); have BKb := Aside0.mk hbox; clear hbox hg; have n0_ := Aside0.mk (below_step HB.out hb); have n1_ := Aside0.mk (blk_below BKg.out hb); clear HB BKg; have HB := n0_; have BKg := n1_; clear n0_ n1_; skip; clear hb)
      | (refine wpList_load_row rfl 31 _ rfl g rfl 31 _ (0, 0) _ BKg.out hu rfl Fi.size ?_)
      | (go_at_call 19; (with_reducible refine (Fi.right (Fi.V_below HV.out HB.out) hd).mono ?_); rintro r w2 ⟨rfl, hb⟩; have n0_ := Aside0.mk (below_step HB.out hb); have n1_ := Aside0.mk (blk_below BKg.out hb); have n2_ := Aside0.mk (blk_below BKb.out hb); clear HB BKg BKb; have HB := n0_; have BKg := n1_; have BKb := n2_; clear n0_ n1_ n2_; clear hb)
      | (go_at_call 30; (have HLT := Aside0.mk (blk_lt BKb.out)); (have HLE := Aside0.mk HB.out.size); (with_reducible refine (Fi.told (Fi.V_below HV.out HB.out) 11 (fun he => absurd he (by decide)) (if_neg (by decide))).mono ?_); rintro r w3 ⟨cs', rfl, hN, hb⟩; have HN := Aside0.mk hN; clear hN; have n0_ := Aside0.mk (below_step HB.out hb); have n1_ := Aside0.mk (blk_below BKb.out hb); clear HB BKb; have HB := n0_; have BKb := n1_; clear n0_ n1_; clear hb)
      | ((with_reducible refine gate_store rfl ?_); refine Fi.store_row rfl 31 _ _ rfl b cs' rfl rfl 31 _ BKb.out (by rw [Fi.V_size HN.out.V]; exact Fi.size) (by rw [Fi.V_size HN.out.V]; rfl) (Fi.V_one HN.out.V) ?_; intro w9 hg9 hgr; have n1_ := Aside0.mk (HB.out.grown hgr HB.out.size (fun k hk => by cases hk; exact GEb.out)); have n2_ := Aside0.mk (Fi.N_grown HN.out hgr HLT.out); clear HB HN BKb; have HB := n1_; have HN := n2_; have BKb := Aside0.mk hg9; clear n1_ n2_ hg9 hgr))
    refine bodyPost_ret (results_ct rfl _ _ b 31 cs' (0, 0) _ rfl BKb.out hu rfl (by rw [Fi.V_size HN.out.V]; exact Fi.size)) rfl ?_
    exact ⟨cs', rfl, Fi.N_lower HN.out HLE.out, HB.out⟩
  have hd : decide (Fi.P (⟨⟨⟨a0, a1⟩, ⟨a2, a3⟩, ⟨a4, a5⟩, ⟨a6, a7⟩, ⟨a8, a9⟩⟩, l1, l2, l3, l4⟩ : S31)) = true := decide_eq_true hP
  cases ws with
  | true =>
    obtain ⟨L, E, HE0⟩ : ∃ L E, writeS a6 a7 l4 p [v % 65536] = (L, E) := ⟨_, _, rfl⟩
    have HF := Aside0.mk (show E = 0 → Fi.Fit (⟨⟨⟨a0, a1⟩, ⟨a2, a3⟩, ⟨a4, a5⟩, ⟨a6, a7⟩, ⟨a8, a9⟩⟩, l1, l2, l3, L⟩ : S31) from fun he => by
      subst he
      have h1 := (Fi.write_len HE0).1
      have h2 := Fi.P_fit hP
      unfold Fi.Fit
      simp only at h2 ⊢
      omega)
    obtain ⟨Y, hY⟩ : ∃ Y, (if E = 0 then (⟨⟨⟨a0, a1⟩, ⟨a2, a3⟩, ⟨a4, a5⟩, ⟨a6, a7⟩, ⟨a8, a9⟩⟩, l1, l2, l3, L⟩ : S31) else z31) = Y := ⟨_, rfl⟩
    rw [show Fi.sense (⟨⟨⟨a0, a1⟩, ⟨a2, a3⟩, ⟨a4, a5⟩, ⟨a6, a7⟩, ⟨a8, a9⟩⟩, l1, l2, l3, l4⟩ : S31) true p v = (Y, E) from by
      rw [← hY]
      unfold Fi.sense
      rw [if_pos hP, if_pos rfl]
      simp only [HE0]
      by_cases he : E = 0
      · simp only [he, if_true]
      · simp only [he, if_false]]
    have HY := Aside0.mk hY
    clear hY
    have HE := Aside0.mk HE0
    clear HE0 hP
    have e16 : IntKind.u16.wrap (Go.bits BinOp.and IntKind.i64 v 65535) = v % 65536 := Fi.and16 v
    go_enter Try.func20, Try.ntmps20
    go_wp2_with (first
      | ((with_reducible refine gate_dst (N := 4) rfl ?_); refine box_event ?hg (N := 4) ?hd (cs := #[.int .i64 a0, .int .i64 a1, .int .i64 a2, .int .i64 a3, .int .i64 a4, .int .i64 a5, .int .i64 a6, .int .i64 a7, .int .i64 a8, .int .i64 a9, .slice A10 l1.length c10, .slice A11 l2.length c11, .slice A12 l3.length c12, .slice A13 l4.length c13]) (t := 31) ?hr ?_; (case hd => rfl); (case hg => rfl); (case hr => first | (go_simp; done) | (go_simp; rfl)); intro g hg w1 hbox hb; have GEg := Aside0.mk ((by rw [hg]; exact HB.out.size) : w.heap.size ≤ g); have BKg := Aside0.mk hbox; clear hbox hg; have n0_ := Aside0.mk (below_step HB.out hb); clear HB; have HB := n0_; clear n0_; skip; clear hb)
      | ((with_reducible refine gate_dst (N := 8) rfl ?_); refine box_event ?hg (N := 8) ?hd (cs := #[.int .i64 0, .int .i64 0, .int .i64 0, .int .i64 0, .int .i64 0, .int .i64 0, .int .i64 0, .int .i64 0, .int .i64 0, .int .i64 0, .slice none 0 0, .slice none 0 0, .slice none 0 0, .slice none 0 0]) (t := 31) ?hr ?_; (case hd => rfl); (case hg => rfl); (case hr => first | (go_simp; done) | (go_simp; rfl)); intro b hg w1b hbox hb; have NB := Aside0.mk (show g ≠ b by rw [hg]; exact Nat.ne_of_lt (blk_lt BKg.out)); have GEb := Aside0.mk ((by rw [hg]; exact HB.out.size) : w.heap.size ≤ b); have BKb := Aside0.mk hbox; clear hbox hg; have n0_ := Aside0.mk (below_step HB.out hb); have n1_ := Aside0.mk (blk_below BKg.out hb); clear HB BKg; have HB := n0_; have BKg := n1_; clear n0_ n1_; skip; clear hb)
      | ((with_reducible refine gate_dst (N := 48) rfl ?_); have hz := Fi.grown_set w3 g 13 (.slice Av L.length cv); have m1 : (w3.setCell ⟨g, 13, none⟩ (.slice Av L.length cv)).heap[g]? = some (.cells #[.int .i64 a0, .int .i64 a1, .int .i64 a2, .int .i64 a3, .int .i64 a4, .int .i64 a5, .int .i64 a6, .int .i64 a7, .int .i64 a8, .int .i64 a9, .slice A10 l1.length c10, .slice A11 l2.length c11, .slice A12 l3.length c12, .slice Av L.length cv] 31 (0, 0)) := blk_put BKg.out 13 _ rfl; have m2 := blk_grown BKb.out hz (fun he => NB.out (Option.some.inj he).symm); have m3 := HB.out.grown hz HB.out.size (fun k hk => by cases hk; exact GEg.out); have m4 := Kd.R_mono (ok' := fun _ => True) (Kd.R_grown (Kd.R_bound HO.out) hz (fun k hk he => by have h1 := hk.2.1; have h2 := HLG.out; cases he; exact absurd h1 (Nat.not_le_of_lt h2))) (fun _ _ => trivial); generalize (w3.setCell ⟨g, 13, none⟩ (.slice Av L.length cv)) = w5 at m1 m2 m3 m4 ⊢; clear hz BKg BKb HB HO; have BKg := Aside0.mk m1; have BKb := Aside0.mk m2; have HB := Aside0.mk m3; have HO := Aside0.mk m4; clear m1 m2 m3 m4; refine wpList_load_row rfl 31 _ rfl g rfl 31 _ (0, 0) _ BKg.out hu rfl Fi.size ?_)
      | (refine wpList_load_row rfl 31 _ rfl g rfl 31 _ (0, 0) _ BKg.out hu rfl Fi.size ?_)
      | (go_at_call 19; (with_reducible refine (Fi.right (Fi.V_below HV.out HB.out) hd).mono ?_); rintro r w2 ⟨rfl, hb⟩; have n0_ := Aside0.mk (below_step HB.out hb); have n1_ := Aside0.mk (blk_below BKg.out hb); have n2_ := Aside0.mk (blk_below BKb.out hb); clear HB BKg BKb; have HB := n0_; have BKg := n1_; have BKb := n2_; clear n0_ n1_ n2_; have cg_6 : w2.cell? ⟨g, 6, none⟩ = some (.int .i64 a6) := (blk_cell BKg.out 6).trans rfl; have cg_7 : w2.cell? ⟨g, 7, none⟩ = some (.int .i64 a7) := (blk_cell BKg.out 7).trans rfl; have cg_13 : w2.cell? ⟨g, 13, none⟩ = some (.slice A13 l4.length c13) := (blk_cell BKg.out 13).trans rfl; clear hb)
      | ((with_reducible refine gate_dst (N := 29) rfl ?_); refine Kd.R_lit (Kd.int .u16) _ 53 ?hg (N := 29) ?hd (xs := ([v % 65536] : List Int)) (inner := [.int .u16 (v % 65536)]) (ok := fun _ => True) (okp := fun _ => True) ?hr ?hp (fun _ hk => hk) trivial (Below.refl _ _) (Nat.le_refl _) (by simp) ?_; (case hd => rfl); (case hg => rfl); (case hr => first | (go_simp; done) | (go_simp; rfl)); (case hp => exact (Reps.one (show Kd.M (Kd.int .u16) _ _ _ (v % 65536) [.int .u16 (v % 65536)] from rfl) (Reps.none _ _))); intro vl w25 ho hb _ _; obtain ⟨Al, cl, el⟩ := Kd.R_slice ho; subst el; replace ho : (Kd.int .u16).R 53 _ _ _ (.slice Al 1 cl) [v % 65536] := ho; have HL := Aside0.mk ho; clear ho; have n0_ := Aside0.mk (below_step HB.out hb); have n1_ := Aside0.mk (blk_below BKg.out hb); have n2_ := Aside0.mk (blk_below BKb.out hb); clear HB BKg BKb; have HB := n0_; have BKg := n1_; have BKb := n2_; clear n0_ n1_ n2_; clear hb)
      | (go_at_call 33; (have HLG := Aside0.mk (blk_lt BKg.out)); (have HLO := Aside0.mk HB.out.size); (refine (Fi.cputW (m := [v % 65536]) (Kd.C_below G13.out HB.out) K13.out (Kd.R_reads' HL.out).2.2 (Kd.R_reads' HL.out).2.1 hp.out HE.out).mono ?_); rintro r w3 ⟨v, rfl, ho, hb⟩; obtain ⟨Av, cv, ev⟩ := Kd.R_slice ho; subst ev; have HO := Aside0.mk ho; clear ho; have n0_ := Aside0.mk (below_step HB.out hb); have n1_ := Aside0.mk (blk_below BKg.out hb); have n2_ := Aside0.mk (blk_below BKb.out hb); clear HB BKg BKb; have HB := n0_; have BKg := n1_; have BKb := n2_; clear n0_ n1_ n2_; have cg_13 : w3.cell? ⟨g, 13, none⟩ = some (.slice A13 l4.length c13) := (blk_cell BKg.out 13).trans rfl; have fg_13 := blk_frozen BKg.out 13; clear hb)
      | (go_at_call 30; (have HLT := Aside0.mk (blk_lt BKb.out)); (have HLE := Aside0.mk HB.out.size); (with_reducible refine (Fi.told (Fi.mk2 K10.out (Kd.C_below G10.out HB.out) K11.out (Kd.C_below G11.out HB.out) K12.out (Kd.C_below G12.out HB.out) (Kd.R_reads' HO.out).2.1 (Kd.R_reads' HO.out).2.2) E HF.out HY.out).mono ?_); rintro r w6 ⟨cs', rfl, hN, hb⟩; have HN := Aside0.mk hN; clear hN; have n0_ := Aside0.mk (below_step HB.out hb); have n1_ := Aside0.mk (blk_below BKb.out hb); clear HB BKb; have HB := n0_; have BKb := n1_; clear n0_ n1_; clear hb)
      | ((with_reducible refine gate_store rfl ?_); refine Fi.store_row rfl 31 _ _ rfl b cs' rfl rfl 31 _ BKb.out (by rw [Fi.V_size HN.out.V]; exact Fi.size) (by rw [Fi.V_size HN.out.V]; rfl) (Fi.V_one HN.out.V) ?_; intro w9 hg9 hgr; have n1_ := Aside0.mk (HB.out.grown hgr HB.out.size (fun k hk => by cases hk; exact GEb.out)); have n2_ := Aside0.mk (Fi.N_grown HN.out hgr HLT.out); clear HB HN BKb; have HB := n1_; have HN := n2_; have BKb := Aside0.mk hg9; clear n1_ n2_ hg9 hgr))
    refine bodyPost_ret (results_ct rfl _ _ b 31 cs' (0, 0) _ rfl BKb.out hu rfl (by rw [Fi.V_size HN.out.V]; exact Fi.size)) rfl ?_
    exact ⟨cs', rfl, Fi.N_lower HN.out HLE.out, HB.out⟩
  | false =>
    obtain ⟨L, E, HE0⟩ : ∃ L E, writeS a2 a3 l2 p [v != 0] = (L, E) := ⟨_, _, rfl⟩
    have HF := Aside0.mk (show E = 0 → Fi.Fit (⟨⟨⟨a0, a1⟩, ⟨a2, a3⟩, ⟨a4, a5⟩, ⟨a6, a7⟩, ⟨a8, a9⟩⟩, l1, L, l3, l4⟩ : S31) from fun he => by
      subst he
      have h1 := (Fi.write_len HE0).1
      have h2 := Fi.P_fit hP
      unfold Fi.Fit
      simp only at h2 ⊢
      omega)
    obtain ⟨Y, hY⟩ : ∃ Y, (if E = 0 then (⟨⟨⟨a0, a1⟩, ⟨a2, a3⟩, ⟨a4, a5⟩, ⟨a6, a7⟩, ⟨a8, a9⟩⟩, l1, L, l3, l4⟩ : S31) else z31) = Y := ⟨_, rfl⟩
    rw [show Fi.sense (⟨⟨⟨a0, a1⟩, ⟨a2, a3⟩, ⟨a4, a5⟩, ⟨a6, a7⟩, ⟨a8, a9⟩⟩, l1, l2, l3, l4⟩ : S31) false p v = (Y, E) from by
      rw [← hY]
      unfold Fi.sense
      rw [if_pos hP, if_neg Bool.false_ne_true]
      simp only [HE0]
      by_cases he : E = 0
      · simp only [he, if_true]
      · simp only [he, if_false]]
    have HY := Aside0.mk hY
    clear hY
    have HE := Aside0.mk HE0
    clear HE0 hP
    go_enter Try.func20, Try.ntmps20
    go_wp2_with (first
      | ((with_reducible refine gate_dst (N := 4) rfl ?_); refine box_event ?hg (N := 4) ?hd (cs := #[.int .i64 a0, .int .i64 a1, .int .i64 a2, .int .i64 a3, .int .i64 a4, .int .i64 a5, .int .i64 a6, .int .i64 a7, .int .i64 a8, .int .i64 a9, .slice A10 l1.length c10, .slice A11 l2.length c11, .slice A12 l3.length c12, .slice A13 l4.length c13]) (t := 31) ?hr ?_; (case hd => rfl); (case hg => rfl); (case hr => first | (go_simp; done) | (go_simp; rfl)); intro g hg w1 hbox hb; have GEg := Aside0.mk ((by rw [hg]; exact HB.out.size) : w.heap.size ≤ g); have BKg := Aside0.mk hbox; clear hbox hg; have n0_ := Aside0.mk (below_step HB.out hb); clear HB; have HB := n0_; clear n0_; skip; clear hb)
      | ((with_reducible refine gate_dst (N := 8) rfl ?_); refine box_event ?hg (N := 8) ?hd (cs := #[.int .i64 0, .int .i64 0, .int .i64 0, .int .i64 0, .int .i64 0, .int .i64 0, .int .i64 0, .int .i64 0, .int .i64 0, .int .i64 0, .slice none 0 0, .slice none 0 0, .slice none 0 0, .slice none 0 0]) (t := 31) ?hr ?_; (case hd => rfl); (case hg => rfl); (case hr => first | (go_simp; done) | (go_simp; rfl)); intro b hg w1b hbox hb; have NB := Aside0.mk (show g ≠ b by rw [hg]; exact Nat.ne_of_lt (blk_lt BKg.out)); have GEb := Aside0.mk ((by rw [hg]; exact HB.out.size) : w.heap.size ≤ b); have BKb := Aside0.mk hbox; clear hbox hg; have n0_ := Aside0.mk (below_step HB.out hb); have n1_ := Aside0.mk (blk_below BKg.out hb); clear HB BKg; have HB := n0_; have BKg := n1_; clear n0_ n1_; skip; clear hb)
      | ((with_reducible refine gate_dst (N := 48) rfl ?_); have hz := Fi.grown_set w3 g 11 (.slice Av L.length cv); have m1 : (w3.setCell ⟨g, 11, none⟩ (.slice Av L.length cv)).heap[g]? = some (.cells #[.int .i64 a0, .int .i64 a1, .int .i64 a2, .int .i64 a3, .int .i64 a4, .int .i64 a5, .int .i64 a6, .int .i64 a7, .int .i64 a8, .int .i64 a9, .slice A10 l1.length c10, .slice Av L.length cv, .slice A12 l3.length c12, .slice A13 l4.length c13] 31 (0, 0)) := blk_put BKg.out 11 _ rfl; have m2 := blk_grown BKb.out hz (fun he => NB.out (Option.some.inj he).symm); have m3 := HB.out.grown hz HB.out.size (fun k hk => by cases hk; exact GEg.out); have m4 := Kd.R_mono (ok' := fun _ => True) (Kd.R_grown (Kd.R_bound HO.out) hz (fun k hk he => by have h1 := hk.2.1; have h2 := HLG.out; cases he; exact absurd h1 (Nat.not_le_of_lt h2))) (fun _ _ => trivial); generalize (w3.setCell ⟨g, 11, none⟩ (.slice Av L.length cv)) = w5 at m1 m2 m3 m4 ⊢; clear hz BKg BKb HB HO; have BKg := Aside0.mk m1; have BKb := Aside0.mk m2; have HB := Aside0.mk m3; have HO := Aside0.mk m4; clear m1 m2 m3 m4; refine wpList_load_row rfl 31 _ rfl g rfl 31 _ (0, 0) _ BKg.out hu rfl Fi.size ?_)
      | (refine wpList_load_row rfl 31 _ rfl g rfl 31 _ (0, 0) _ BKg.out hu rfl Fi.size ?_)
      | (go_at_call 19; (with_reducible refine (Fi.right (Fi.V_below HV.out HB.out) hd).mono ?_); rintro r w2 ⟨rfl, hb⟩; have n0_ := Aside0.mk (below_step HB.out hb); have n1_ := Aside0.mk (blk_below BKg.out hb); have n2_ := Aside0.mk (blk_below BKb.out hb); clear HB BKg BKb; have HB := n0_; have BKg := n1_; have BKb := n2_; clear n0_ n1_ n2_; have cg_2 : w2.cell? ⟨g, 2, none⟩ = some (.int .i64 a2) := (blk_cell BKg.out 2).trans rfl; have cg_3 : w2.cell? ⟨g, 3, none⟩ = some (.int .i64 a3) := (blk_cell BKg.out 3).trans rfl; have cg_11 : w2.cell? ⟨g, 11, none⟩ = some (.slice A11 l2.length c11) := (blk_cell BKg.out 11).trans rfl; clear hb)
      | ((with_reducible refine gate_dst (N := 43) rfl ?_); refine Kd.R_lit (Kd.bool) _ 4 ?hg (N := 43) ?hd (xs := ([v != 0] : List Bool)) (inner := [.bool (v != 0)]) (ok := fun _ => True) (okp := fun _ => True) ?hr ?hp (fun _ hk => hk) trivial (Below.refl _ _) (Nat.le_refl _) (by simp) ?_; (case hd => rfl); (case hg => rfl); (case hr => first | (go_simp; done) | (go_simp; rfl)); (case hp => exact (Reps.one (show Kd.M (Kd.bool) _ _ _ (v != 0) [.bool (v != 0)] from rfl) (Reps.none _ _))); intro vl w25 ho hb _ _; obtain ⟨Al, cl, el⟩ := Kd.R_slice ho; subst el; replace ho : Kd.bool.R 4 _ _ _ (.slice Al 1 cl) [v != 0] := ho; have HL := Aside0.mk ho; clear ho; have n0_ := Aside0.mk (below_step HB.out hb); have n1_ := Aside0.mk (blk_below BKg.out hb); have n2_ := Aside0.mk (blk_below BKb.out hb); clear HB BKg BKb; have HB := n0_; have BKg := n1_; have BKb := n2_; clear n0_ n1_ n2_; clear hb)
      | (go_at_call 31; (have HLG := Aside0.mk (blk_lt BKg.out)); (have HLO := Aside0.mk HB.out.size); (refine (Fi.cputB (m := [v != 0]) (Kd.C_below G11.out HB.out) K11.out (Kd.R_reads' HL.out).2.2 (Kd.R_reads' HL.out).2.1 hp.out HE.out).mono ?_); rintro r w3 ⟨v, rfl, ho, hb⟩; obtain ⟨Av, cv, ev⟩ := Kd.R_slice ho; subst ev; have HO := Aside0.mk ho; clear ho; have n0_ := Aside0.mk (below_step HB.out hb); have n1_ := Aside0.mk (blk_below BKg.out hb); have n2_ := Aside0.mk (blk_below BKb.out hb); clear HB BKg BKb; have HB := n0_; have BKg := n1_; have BKb := n2_; clear n0_ n1_ n2_; have cg_11 : w3.cell? ⟨g, 11, none⟩ = some (.slice A11 l2.length c11) := (blk_cell BKg.out 11).trans rfl; have fg_11 := blk_frozen BKg.out 11; clear hb)
      | (go_at_call 30; (have HLT := Aside0.mk (blk_lt BKb.out)); (have HLE := Aside0.mk HB.out.size); (with_reducible refine (Fi.told (Fi.mk2 K10.out (Kd.C_below G10.out HB.out) (Kd.R_reads' HO.out).2.1 (Kd.R_reads' HO.out).2.2 K12.out (Kd.C_below G12.out HB.out) K13.out (Kd.C_below G13.out HB.out)) E HF.out HY.out).mono ?_); rintro r w6 ⟨cs', rfl, hN, hb⟩; have HN := Aside0.mk hN; clear hN; have n0_ := Aside0.mk (below_step HB.out hb); have n1_ := Aside0.mk (blk_below BKb.out hb); clear HB BKb; have HB := n0_; have BKb := n1_; clear n0_ n1_; clear hb)
      | ((with_reducible refine gate_store rfl ?_); refine Fi.store_row rfl 31 _ _ rfl b cs' rfl rfl 31 _ BKb.out (by rw [Fi.V_size HN.out.V]; exact Fi.size) (by rw [Fi.V_size HN.out.V]; rfl) (Fi.V_one HN.out.V) ?_; intro w9 hg9 hgr; have n1_ := Aside0.mk (HB.out.grown hgr HB.out.size (fun k hk => by cases hk; exact GEb.out)); have n2_ := Aside0.mk (Fi.N_grown HN.out hgr HLT.out); clear HB HN BKb; have HB := n1_; have HN := n2_; have BKb := Aside0.mk hg9; clear n1_ n2_ hg9 hgr))
    refine bodyPost_ret (results_ct rfl _ _ b 31 cs' (0, 0) _ rfl BKb.out hu rfl (by rw [Fi.V_size HN.out.V]; exact Fi.size)) rfl ?_
    exact ⟨cs', rfl, Fi.N_lower HN.out HLE.out, HB.out⟩

end Go.Proofs.Ytamcpmfimicnjaa.P
