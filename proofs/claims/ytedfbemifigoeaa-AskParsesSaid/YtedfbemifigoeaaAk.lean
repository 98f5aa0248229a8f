import Derived.Test.YtedfbemifigoeaaX
import Derived.Test.YtedfbemifigoeaaAg
import Derived.Test.YtedfbemifigoeaaAe
import Derived.Test.YtedfbemifigoeaaLWord
import Derived.Test.YtedfbemifigoeaaLBits
namespace Go.Proofs.Ytedfbemifigoeaa.P
open Go.RowKit Go.Proofs.YtedfbemifigoeaaW.PrintWords Go.Proofs.YtedfbemifigoeaaW.PrintLast Go.Proofs.YtedfbemifigoeaaW.PrintMore
attribute [local go_sem] max2_int min2_int max_two min_two max_three min_three max_four min_four   -- for this text's walks alone
set_option linter.unusedVariables false
set_option linter.unusedSimpArgs false

open Go.Proofs.Ytedfbemifigoeaa.L

theorem As.Cof {α : Type} {d : Kd α} {e base n c : Nat} {ok : Nat → Prop} {w : World} {A : Option Addr} {xs : List α} (h : d.R e w base ok (.slice A n c) xs) : d.C w A n xs := by
  obtain ⟨h1, _, h2⟩ := Kd.R_reads' h
  rw [h1]
  exact h2
set_option maxHeartbeats 16000000 in
set_option maxRecDepth 100000 in
theorem As.rprints {w : World} {cs : Array Value} {x : S25} (h : As.V w cs x) (hf : As.Fit x) (h16 : ∀ n ∈ x.f9, 0 ≤ n ∧ n ≤ 65535) {b : Bool} (he : As.right x = b) : Calls Try.prog 13 #[.agg cs] w fun e w' => ∃ v, e = .returned (.tuple #[v, .bool b]) ∧ (Kd.int .u8).R 5 w' w.heap.size (fun _ => True) v (As.print x) ∧ Below w.heap.size w w' := by
  have HV := Aside0.mk h
  obtain ⟨A8, c8, A9, c9, rfl, k8, g8, k9, g9⟩ := As.open h
  have K8 := Aside0.mk k8
  have G8 := Aside0.mk g8
  have K9 := Aside0.mk k9
  have G9 := Aside0.mk g9
  clear h k8 g8 k9 g9
  have HF := Aside0.mk hf
  have H16 := Aside0.mk h16
  clear hf h16
  have hu := Try.underlying25
  have HB := Aside0.mk (Below.refl w.heap.size w)
  cases b with
  | false =>
    rw [show As.print x = [] from by unfold As.print; rw [he]; rfl]
    go_enter Try.func13, Try.ntmps13
    go_wp2_with (first
      | ((with_reducible refine gate_dst (N := 1) rfl ?_); refine box_event ?hg (N := 1) ?hd (cs := #[.int .i64 x.f0, .int .i64 x.f1, .int .i64 x.f2, .int .i64 x.f3, .int .i64 x.f4, .int .i64 x.f5, .int .i64 x.f6, .int .i64 x.f7, .slice A8 x.f8.length c8, .slice A9 x.f9.length c9]) (t := 25) ?hr ?_; (case hd => rfl); (case hg => rfl); (case hr => first | (go_simp; done) | (go_simp; rfl)); intro g1 hg w1 hbox hb; have GEg1 := Aside0.mk ((by rw [hg]; exact HB.out.size) : w.heap.size ≤ g1); have BKg1 := Aside0.mk hbox; clear hbox hg; have n0_ := Aside0.mk (below_step HB.out hb); clear HB; have HB := n0_; clear n0_; skip; clear hb)
      | (refine wpList_load_row rfl 25 _ rfl g1 rfl 25 _ (0, 0) _ BKg1.out hu rfl (by kernel_rfl) ?_)
      | (go_at_call 15; (with_reducible refine (As.rrights (As.V_below HV.out HB.out) HF.out he).mono ?_); rintro r w2 ⟨rfl, hb⟩; have n0_ := Aside0.mk (below_step HB.out hb); have n1_ := Aside0.mk (blk_below BKg1.out hb); clear HB BKg1; have HB := n0_; have BKg1 := n1_; clear n0_ n1_; (try clear cg1); have cg1 := fun i => blk_cell BKg1.out i; clear hb))
    go_ret2
    exact ⟨_, rfl, Kd.R_nil _ _ _ _ _, HB.out⟩
  | true =>
    rw [show As.print x = As.say x from by unfold As.print; rw [he]; rfl]
    obtain ⟨hw0, hf0, hfacts⟩ := As.facts he
    clear hf0
    rcases hfacts with ⟨d1, d2, d3, d4, d5, d6, d15, d16, d22, d23, hn, hr, hrg, h9⟩ | ⟨d1, d2, d3, d4, d5, d6, d15, d16, d22, d23, hn, hr, hrg, h9⟩ | ⟨d1, d2, d3, d4, d5, d6, d15, d16, d22, d23, hn, hr, hrg, h9⟩ | ⟨d1, d2, d3, d4, d5, d6, d15, d16, d22, d23, hn, hr, hrg, h9⟩ | ⟨d1, d2, d3, d4, d5, d6, d15, d16, d22, d23, hn, hr, hrg, h9⟩ | ⟨d1, d2, d3, d4, d5, d6, d15, d16, d22, d23, hn, hr, hrg, h9⟩ | ⟨d1, d2, d3, d4, d5, d6, d15, d16, d22, d23, hn, hr, hrg, h9⟩ | ⟨d1, d2, d3, d4, d5, d6, d15, d16, d22, d23, hn, hr, hrg, h9⟩ | ⟨d1, d2, d3, d4, d5, d6, d15, d16, d22, d23, hn, hr, hrg, h9⟩ | ⟨d1, d2, d3, d4, d5, d6, d15, d16, d22, d23, hn, hr, hrg, h9⟩
    all_goals
      have HN := Aside0.mk hn
      have HR := Aside0.mk hr
      have HG := Aside0.mk hrg
      have H9 := Aside0.mk h9
      try (have u1 : IntKind.u16.wrap x.f1 = x.f1 := by rw [u16w]; omega)
      try (have u2 : IntKind.u16.wrap x.f2 = x.f2 := by rw [u16w]; omega)
      try (have u3 : IntKind.u16.wrap x.f3 = x.f3 := by rw [u16w]; omega)
      try (have u4 : IntKind.u16.wrap x.f4 = x.f4 := by rw [u16w]; omega)
      try (have u5 : IntKind.u16.wrap x.f5 = x.f5 := by rw [u16w]; omega)
      try (have u6 : IntKind.u16.wrap x.f6 = x.f6 := by rw [u16w]; omega)
      try (have u7 : IntKind.u16.wrap x.f7 = x.f7 := by rw [u16w]; omega)
      try (have m2 : IntKind.i64.wrap (2 * x.f2) = 2 * x.f2 := by rw [i64_w]; exact w64 (by omega))
      try (have m3 : IntKind.u8.wrap (2 * x.f2) = ((putW x.f9).length : Int) % 256 := by rw [show IntKind.u8.wrap (2 * x.f2) = (2 * x.f2) % 256 from by simp [IntKind.wrap, IntKind.bits, IntKind.signed], putW_length]; have := h9.2; omega)
      have hwb : IntKind.u8.wrap ((pk x.f8).length : Int) = ((pk x.f8).length : Int) % 256 := by simp [IntKind.wrap, IntKind.bits, IntKind.signed]
      clear hn hr hrg h9
      go_enter Try.func13, Try.ntmps13
      go_wp2_with (first
        | ((with_reducible refine gate_dst (N := 1) rfl ?_); refine box_event ?hg (N := 1) ?hd (cs := #[.int .i64 x.f0, .int .i64 x.f1, .int .i64 x.f2, .int .i64 x.f3, .int .i64 x.f4, .int .i64 x.f5, .int .i64 x.f6, .int .i64 x.f7, .slice A8 x.f8.length c8, .slice A9 x.f9.length c9]) (t := 25) ?hr ?_; (case hd => rfl); (case hg => rfl); (case hr => first | (go_simp; done) | (go_simp; rfl)); intro g1 hg w1 hbox hb; have GEg1 := Aside0.mk ((by rw [hg]; exact HB.out.size) : w.heap.size ≤ g1); have BKg1 := Aside0.mk hbox; clear hbox hg; have n0_ := Aside0.mk (below_step HB.out hb); clear HB; have HB := n0_; clear n0_; skip; clear hb)
        | (refine wpList_load_row rfl 25 _ rfl g1 rfl 25 _ (0, 0) _ BKg1.out hu rfl (by kernel_rfl) ?_)
        | (go_at_call 15; (with_reducible refine (As.rrights (As.V_below HV.out HB.out) HF.out he).mono ?_); rintro r w2 ⟨rfl, hb⟩; have n0_ := Aside0.mk (below_step HB.out hb); have n1_ := Aside0.mk (blk_below BKg1.out hb); clear HB BKg1; have HB := n0_; have BKg1 := n1_; clear n0_ n1_; (try clear cg1); have cg1 := fun i => blk_cell BKg1.out i; clear hb)
        | ((with_reducible refine gate_dst (N := 24) rfl ?_); refine Kd.R_lit (Kd.int .u16) w.heap.size 59 ?hg (N := 24) ?hd (xs := [x.f1, x.f2]) (inner := [.int .u16 (x.f1), .int .u16 (x.f2)]) (ok := (fun _ => True)) (okp := fun _ => False) ?hr ?hp (fun _ hk => hk.elim) trivial HB.out HB.out.size (by simp) ?_; (case hd => rfl); (case hg => rfl); (case hr => first | (go_simp; done) | (go_simp; rfl)); (case hp => exact (Reps.one (show Kd.M (Kd.int .u16) _ _ _ (x.f1) [.int .u16 (x.f1)] from rfl) (Reps.one (show Kd.M (Kd.int .u16) _ _ _ (x.f2) [.int .u16 (x.f2)] from rfl) (Reps.none _ _)))); intro vn w6 ho hb0 hgr _; have HL := Aside0.mk ho; have n0_ := Aside0.mk (hb0); have n1_ := Aside0.mk (blk_grown BKg1.out hgr (by simp)); clear HB BKg1; have HB := n0_; have BKg1 := n1_; clear n0_ n1_; clear ho hb0 hgr; (try clear HL0_); (try clear cg1); have cg1 := fun i => blk_cell BKg1.out i)
        | ((with_reducible refine gate_dst (N := 34) rfl ?_); refine Kd.R_lit (Kd.int .u16) w.heap.size 59 ?hg (N := 34) ?hd (xs := [x.f1, x.f3]) (inner := [.int .u16 (x.f1), .int .u16 (x.f3)]) (ok := (fun _ => True)) (okp := fun _ => False) ?hr ?hp (fun _ hk => hk.elim) trivial HB.out HB.out.size (by simp) ?_; (case hd => rfl); (case hg => rfl); (case hr => first | (go_simp; done) | (go_simp; rfl)); (case hp => exact (Reps.one (show Kd.M (Kd.int .u16) _ _ _ (x.f1) [.int .u16 (x.f1)] from rfl) (Reps.one (show Kd.M (Kd.int .u16) _ _ _ (x.f3) [.int .u16 (x.f3)] from rfl) (Reps.none _ _)))); intro vn w6 ho hb0 hgr _; have HL := Aside0.mk ho; have n0_ := Aside0.mk (hb0); have n1_ := Aside0.mk (blk_grown BKg1.out hgr (by simp)); clear HB BKg1; have HB := n0_; have BKg1 := n1_; clear n0_ n1_; clear ho hb0 hgr; (try clear HL0_); (try clear cg1); have cg1 := fun i => blk_cell BKg1.out i)
        | ((with_reducible refine gate_dst (N := 43) rfl ?_); refine Kd.R_lit (Kd.int .u16) w.heap.size 59 ?hg (N := 43) ?hd (xs := [x.f1, x.f2]) (inner := [.int .u16 (x.f1), .int .u16 (x.f2)]) (ok := (fun _ => True)) (okp := fun _ => False) ?hr ?hp (fun _ hk => hk.elim) trivial HB.out HB.out.size (by simp) ?_; (case hd => rfl); (case hg => rfl); (case hr => first | (go_simp; done) | (go_simp; rfl)); (case hp => exact (Reps.one (show Kd.M (Kd.int .u16) _ _ _ (x.f1) [.int .u16 (x.f1)] from rfl) (Reps.one (show Kd.M (Kd.int .u16) _ _ _ (x.f2) [.int .u16 (x.f2)] from rfl) (Reps.none _ _)))); intro vn w6 ho hb0 hgr _; have HL := Aside0.mk ho; have n0_ := Aside0.mk (hb0); have n1_ := Aside0.mk (blk_grown BKg1.out hgr (by simp)); clear HB BKg1; have HB := n0_; have BKg1 := n1_; clear n0_ n1_; clear ho hb0 hgr; (try clear HL0_); (try clear cg1); have cg1 := fun i => blk_cell BKg1.out i)
        | ((with_reducible refine gate_dst (N := 61) rfl ?_); refine Kd.R_lit (Kd.int .u16) w.heap.size 59 ?hg (N := 61) ?hd (xs := [x.f1, x.f2]) (inner := [.int .u16 (x.f1), .int .u16 (x.f2)]) (ok := (fun _ => True)) (okp := fun _ => False) ?hr ?hp (fun _ hk => hk.elim) trivial HB.out HB.out.size (by simp) ?_; (case hd => rfl); (case hg => rfl); (case hr => first | (go_simp; done) | (go_simp; rfl)); (case hp => exact (Reps.one (show Kd.M (Kd.int .u16) _ _ _ (x.f1) [.int .u16 (x.f1)] from rfl) (Reps.one (show Kd.M (Kd.int .u16) _ _ _ (x.f2) [.int .u16 (x.f2)] from rfl) (Reps.none _ _)))); intro vn w6 ho hb0 hgr _; have HL := Aside0.mk ho; have n0_ := Aside0.mk (hb0); have n1_ := Aside0.mk (blk_grown BKg1.out hgr (by simp)); clear HB BKg1; have HB := n0_; have BKg1 := n1_; clear n0_ n1_; clear ho hb0 hgr; (try clear HL0_); (try clear cg1); have cg1 := fun i => blk_cell BKg1.out i)
        | ((with_reducible refine gate_dst (N := 82) rfl ?_); refine Kd.R_lit (Kd.int .u16) w.heap.size 59 ?hg (N := 82) ?hd (xs := [x.f1, x.f4, x.f5]) (inner := [.int .u16 (x.f1), .int .u16 (x.f4), .int .u16 (x.f5)]) (ok := (fun _ => True)) (okp := fun _ => False) ?hr ?hp (fun _ hk => hk.elim) trivial HB.out HB.out.size (by simp) ?_; (case hd => rfl); (case hg => rfl); (case hr => first | (go_simp; done) | (go_simp; rfl)); (case hp => exact (Reps.one (show Kd.M (Kd.int .u16) _ _ _ (x.f1) [.int .u16 (x.f1)] from rfl) (Reps.one (show Kd.M (Kd.int .u16) _ _ _ (x.f4) [.int .u16 (x.f4)] from rfl) (Reps.one (show Kd.M (Kd.int .u16) _ _ _ (x.f5) [.int .u16 (x.f5)] from rfl) (Reps.none _ _))))); intro vn w6 ho hb0 hgr _; have HL := Aside0.mk ho; have n0_ := Aside0.mk (hb0); have n1_ := Aside0.mk (blk_grown BKg1.out hgr (by simp)); clear HB BKg1; have HB := n0_; have BKg1 := n1_; clear n0_ n1_; clear ho hb0 hgr; (try clear HL0_); (try clear cg1); have cg1 := fun i => blk_cell BKg1.out i)
        | ((with_reducible refine gate_dst (N := 97) rfl ?_); refine Kd.R_lit (Kd.int .u16) w.heap.size 59 ?hg (N := 97) ?hd (xs := [x.f6, x.f7, x.f1, x.f2]) (inner := [.int .u16 (x.f6), .int .u16 (x.f7), .int .u16 (x.f1), .int .u16 (x.f2)]) (ok := (fun _ => True)) (okp := fun _ => False) ?hr ?hp (fun _ hk => hk.elim) trivial HB.out HB.out.size (by simp) ?_; (case hd => rfl); (case hg => rfl); (case hr => first | (go_simp; done) | (go_simp; rfl)); (case hp => exact (Reps.one (show Kd.M (Kd.int .u16) _ _ _ (x.f6) [.int .u16 (x.f6)] from rfl) (Reps.one (show Kd.M (Kd.int .u16) _ _ _ (x.f7) [.int .u16 (x.f7)] from rfl) (Reps.one (show Kd.M (Kd.int .u16) _ _ _ (x.f1) [.int .u16 (x.f1)] from rfl) (Reps.one (show Kd.M (Kd.int .u16) _ _ _ (x.f2) [.int .u16 (x.f2)] from rfl) (Reps.none _ _)))))); intro vn w6 ho hb0 hgr _; have HL := Aside0.mk ho; have n0_ := Aside0.mk (hb0); have n1_ := Aside0.mk (blk_grown BKg1.out hgr (by simp)); clear HB BKg1; have HB := n0_; have BKg1 := n1_; clear n0_ n1_; clear ho hb0 hgr; (try clear HL0_); (try clear cg1); have cg1 := fun i => blk_cell BKg1.out i)
        | (go_at_call 40; (with_reducible refine (As.rpacks (Kd.C_below G8.out HB.out) K8.out (by have := H9.out; omega)).mono ?_); rintro r w6 ⟨vp, rfl, ho, hb⟩; obtain ⟨Ap, cp, ep⟩ := Kd.R_slice ho; subst ep; have HP := Aside0.mk (Kd.R_lower ho HB.out.size); clear ho; have n0_ := Aside0.mk (below_step HB.out hb); have n1_ := Aside0.mk (blk_below BKg1.out hb); have n2_ := Aside0.mk (Kd.R_below HL.out hb); clear HB BKg1 HL; have HB := n0_; have BKg1 := n1_; have HL := n2_; clear n0_ n1_ n2_; clear hb)
        | ((with_reducible refine gate_dst (N := 50) rfl ?_); refine Kd.R_lit (Kd.int .u8) (w0 := w6) w6.heap.size 5 ?hg (N := 50) ?hd (xs := [((pk x.f8).length : Int) % 256]) (inner := [.int .u8 (((pk x.f8).length : Int) % 256)]) (ok := fun _ => True) (okp := fun _ => False) ?hr ?hp (fun _ hk => hk.elim) trivial (Below.refl _ _) (Nat.le_refl _) (by simp) ?_; (case hd => rfl); (case hg => rfl); (case hr => first | (go_simp; done) | (go_simp; rfl)); (case hp => exact (Reps.one (show Kd.M (Kd.int .u8) _ _ _ (((pk x.f8).length : Int) % 256) [.int .u8 (((pk x.f8).length : Int) % 256)] from rfl) (Reps.none _ _))); intro v5 w9 ho hb0 hgr _; have HB9 := Aside0.mk hb0; have HQ1 := Aside0.mk ho; clear ho hb0 hgr; obtain ⟨A5, c5, e5⟩ := Kd.R_slice HQ1.out; subst e5)
        | ((with_reducible refine gate_builtin (b := .append) (xs := #[.tmp 50, .tmp 51]) rfl ?_); at_builtin; refine Kd.R_append_rows (Kd.int .u8) (w0 := w6) w6.heap.size rfl (.tmp 50) (.tmp 51) 28 5 (.int .u8 0) 1 rfl Try.underlying28 As.byte rfl (by decide) (by omega) _ [((pk x.f8).length : Int) % 256] (pk x.f8) _ _ _ (fun _ => True) (fun _ => False) rfl rfl HQ1.out (Kd.C_below (Kd.R_reads' HP.out).2.2 HB9.out) (fun _ _ h => h) (fun _ h => h.elim) (fun _ _ => trivial) HB9.out HB9.out.size (by have := H9.out; rw [pk_len]; unfold szN; simp; omega) ?_; intro vq w6 ho hb _ _; have HQ := Aside0.mk (Kd.R_lower ho HB.out.size); clear ho HQ1 HP HB9; have n0_ := Aside0.mk (below_step HB.out hb); have n1_ := Aside0.mk (blk_below BKg1.out hb); have n2_ := Aside0.mk (Kd.R_below HL.out hb); clear HB BKg1 HL; have HB := n0_; have BKg1 := n1_; have HL := n2_; clear n0_ n1_ n2_; clear hb; (try clear cg1); have cg1 := fun i => blk_cell BKg1.out i))
    rotate_left 7
    focus
      have hb := below_drew1 (Below.refl w6.heap.size w6)
      refine start_ (n := 10) (S := fun w' => Below w6.heap.size w6 w') (ds := []) (bt 10 0) (by kernel_rfl) rfl (by kernel_rfl) hb (fun hHeld => ?_)
      clear hb
      try clear cg1
      refine pure_ (i := 0) (N := some 62) (v := ?_) (a' := ?_) (bt 10 1) rfl rfl (by kernel_rfl) (fun _ _ _ h => h) (Or.inl ⟨by rfl, ?_⟩) ?_ ?_
      rotate_left
      · intro w'
        go_simp
        first | with_reducible rfl | (simp [Instr.field, go_sem]; rfl)
      rotate_left
      · simp only [Act.put, List.setIfInBounds_toArray, List.set_cons_zero, List.set_cons_succ]
        rfl
      refine take_ (i := 1) (N := some 63) (v := ?_) (a' := ?_) (bt 10 3) rfl rfl (by kernel_rfl) (fun _ _ _ h => h) (Or.inl ⟨by rfl, ?_⟩) hHeld ?_ ?_
      rotate_left
      · intro w' hS
        have f_ := fun i => blk_cell (blk_below BKg1.out hS) i
        go_simp
        first | with_reducible rfl | (simp [Instr.field, go_sem]; rfl)
      rotate_left
      · simp only [Act.put, List.setIfInBounds_toArray, List.set_cons_zero, List.set_cons_succ]
        rfl
      refine pure_ (i := 2) (N := some 64) (v := ?_) (a' := ?_) (bt 10 7) rfl rfl (by kernel_rfl) (fun _ _ _ h => h) (Or.inl ⟨by rfl, ?_⟩) ?_ ?_
      rotate_left
      · intro w'
        go_simp
        first | with_reducible rfl | (simp [Instr.field, go_sem]; rfl)
      rotate_left
      · simp only [Act.put, List.setIfInBounds_toArray, List.set_cons_zero, List.set_cons_succ]
        rfl
      refine pure_ (i := 3) (N := some 65) (v := ?_) (a' := ?_) (bt 10 15) rfl rfl (by kernel_rfl) (fun _ _ _ h => h) (Or.inl ⟨by rfl, ?_⟩) ?_ ?_
      rotate_left
      · intro w'
        go_simp
        first | with_reducible rfl | (simp [Instr.field, go_sem]; rfl)
      rotate_left
      · simp only [Act.put, List.setIfInBounds_toArray, List.set_cons_zero, List.set_cons_succ]
        rfl
      refine pure_ (i := 5) (N := some 67) (v := ?_) (a' := ?_) (bt 10 47) rfl rfl (by kernel_rfl) (fun _ _ _ h => h) (Or.inl ⟨by rfl, ?_⟩) ?_ ?_
      rotate_left
      · intro w'
        go_simp
        first | with_reducible rfl | (simp [Instr.field, go_sem]; rfl)
      rotate_left
      · simp only [Act.put, List.setIfInBounds_toArray, List.set_cons_zero, List.set_cons_succ]
        rfl
      refine take_ (i := 6) (N := some 68) (v := ?_) (a' := ?_) (bt 10 111) rfl rfl (by kernel_rfl) (fun _ _ _ h => h) (Or.inl ⟨by rfl, ?_⟩) hHeld ?_ ?_
      rotate_left
      · intro w' hS
        have f_ := fun i => blk_cell (blk_below BKg1.out hS) i
        go_simp
        first | with_reducible rfl | (simp [Instr.field, go_sem]; rfl)
      rotate_left
      · simp only [Act.put, List.setIfInBounds_toArray, List.set_cons_zero, List.set_cons_succ]
        rfl
      refine join_ (σ := Value × Value) 2 (bt 10 255) (fun s_ => [(66, s_.1), (69, s_.2)]) (fun s_ w' => (Kd.int .u8).R 5 w' w6.heap.size (fun _ => True) s_.1 [((putW x.f9).length : Int) % 256] ∧ (Kd.int .u8).R 5 w' w6.heap.size (fun _ => True) s_.2 (putW x.f9) ∧ Below w6.heap.size w6 w') ?_ ?_
      rotate_left
      · intro hJ
        refine two_ (i := 4) (j := 7) (Ni := some 66) (Nj := some 69) (bt 10 127) (bt 10 239) rfl rfl rfl rfl (by kernel_rfl) (by decide) (by decide) (fun K hK => ?_) (fun K hK => ?_)
        · skip
          refine Kd.R_lit_step (Kd.int .u8) (w0 := w6) w6.heap.size 5 ?hg (N := 66) ?hd (xs := [((putW x.f9).length : Int) % 256]) (inner := [.int .u8 (((putW x.f9).length : Int) % 256)]) (ok := fun _ => True) (okp := fun _ => False) ?hr ?hp (fun _ hk => hk.elim) trivial hHeld hHeld.size (by simp) ?_
          case hd => rfl
          case hg => rfl
          case hr => first | (go_simp; done) | (go_simp; rfl)
          case hp => exact (Reps.one (show Kd.M (Kd.int .u8) _ _ _ (((putW x.f9).length : Int) % 256) [.int .u8 (((putW x.f9).length : Int) % 256)] from rfl) (Reps.none _ _))
          intro vs ws ho hb1 hgr _
          refine hK.out _ _ hb1 (fun _ => ?_)
          clear hK K
          refine norm_ (a' := ?_) ?_ ?_
          rotate_left
          · show Act.put _ (some 66) _ = _
            simp only [Act.put, List.setIfInBounds_toArray, List.set_cons_zero, List.set_cons_succ]
            rfl
          refine one_ (i := 7) (N := some 69) (bt 10 255) rfl rfl (by kernel_rfl) (by decide) (fun K hK => ?_)
          refine goes_ Try.func41 (by kernel_rfl) rfl #[.slice A9 x.f9.length c9] (by rfl) rfl rfl (by (try simp only [List.map_toArray, List.map_cons, List.map_nil]); first | done | rfl) ?_
          refine (As.rputs (Kd.C_below G9.out (below_step HB.out hb1)) K9.out H16.out (by have := H9.out; omega)).mono ?_
          rintro e wp ⟨vp, rfl, hp, hb2⟩
          refine ⟨_, rfl, ?_⟩
          refine hK.out _ _ (below_step hb1 hb2) (fun _ => ?_)
          clear hK K
          refine norm_ (a' := ?_) ?_ ?_
          rotate_left
          · show Act.put _ (some 69) _ = _
            simp only [Act.put, List.setIfInBounds_toArray, List.set_cons_zero, List.set_cons_succ]
            rfl
          exact norm_ (by simp only [putAll, Act.put, List.setIfInBounds_toArray, List.set_cons_zero, List.set_cons_succ] <;> rfl) (hJ (vs, vp) _ ⟨Kd.R_below ho hb2, Kd.R_lower hp hb1.size, below_step hb1 hb2⟩)
        · skip
          refine goes_ Try.func41 (by kernel_rfl) rfl #[.slice A9 x.f9.length c9] (by rfl) rfl rfl (by (try simp only [List.map_toArray, List.map_cons, List.map_nil]); first | done | rfl) ?_
          refine (As.rputs (Kd.C_below G9.out (below_step HB.out hHeld)) K9.out H16.out (by have := H9.out; omega)).mono ?_
          rintro e wp ⟨vp, rfl, hp, hb2⟩
          refine ⟨_, rfl, ?_⟩
          have hb3 := below_step hHeld hb2
          refine hK.out _ _ hb3 (fun _ => ?_)
          clear hK K
          refine norm_ (a' := ?_) ?_ ?_
          rotate_left
          · show Act.put _ (some 69) _ = _
            simp only [Act.put, List.setIfInBounds_toArray, List.set_cons_zero, List.set_cons_succ]
            rfl
          refine one_ (i := 4) (N := some 66) (bt 10 255) rfl rfl (by kernel_rfl) (by decide) (fun K hK => ?_)
          refine Kd.R_lit_step (Kd.int .u8) (w0 := w6) w6.heap.size 5 ?hg (N := 66) ?hd (xs := [((putW x.f9).length : Int) % 256]) (inner := [.int .u8 (((putW x.f9).length : Int) % 256)]) (ok := fun _ => True) (okp := fun _ => False) ?hr ?hp (fun _ hk => hk.elim) trivial hb3 hb3.size (by simp) ?_
          case hd => rfl
          case hg => rfl
          case hr => first | (go_simp; done) | (go_simp; rfl)
          case hp => exact (Reps.one (show Kd.M (Kd.int .u8) _ _ _ (((putW x.f9).length : Int) % 256) [.int .u8 (((putW x.f9).length : Int) % 256)] from rfl) (Reps.none _ _))
          intro vs ws ho hb1 hgr _
          refine hK.out _ _ hb1 (fun _ => ?_)
          clear hK K
          refine norm_ (a' := ?_) ?_ ?_
          rotate_left
          · show Act.put _ (some 66) _ = _
            simp only [Act.put, List.setIfInBounds_toArray, List.set_cons_zero, List.set_cons_succ]
            rfl
          exact norm_ (by simp only [putAll, Act.put, List.setIfInBounds_toArray, List.set_cons_zero, List.set_cons_succ] <;> rfl) (hJ (vs, vp) _ ⟨ho, Kd.R_grown (Kd.R_lower hp hHeld.size) hgr (fun _ _ => by simp), hb1⟩)
      clear hHeld
      rintro ⟨vs, vp⟩ wj ⟨hs, hp, hHeld⟩
      dsimp only at hs hp
      obtain ⟨As_, cs_, es_⟩ := Kd.R_slice hs
      subst es_
      obtain ⟨Ap_, cp_, ep_⟩ := Kd.R_slice hp
      subst ep_
      have HS1 := Aside0.mk hs
      have HP1 := Aside0.mk hp
      clear hs hp
      refine norm_ (a' := ?_) ?_ ?_
      rotate_left
      · simp only [putAll, Act.put, List.setIfInBounds_toArray, List.set_cons_zero, List.set_cons_succ]
        rfl
      refine one_ (i := 8) (N := some 70) (bt 10 511) rfl rfl (by kernel_rfl) (by decide) (fun K hK => ?_)
      refine Kd.R_append_rows_step (Kd.int .u8) (w0 := w6) w6.heap.size (by rfl) (.tmp 66) (.tmp 69) 28 5 (.int .u8 0) 1 rfl Try.underlying28 As.byte rfl (by decide) (by omega) _ [((putW x.f9).length : Int) % 256] (putW x.f9) _ _ _ (fun _ => True) (fun _ => False) rfl rfl HS1.out (Kd.R_reads' HP1.out).2.2 (fun _ _ h => h) (fun _ h => h.elim) (fun _ _ => trivial) hHeld hHeld.size (by have := H9.out; rw [putW_length]; simp; omega) ?_
      intro va w6 ho hb6 _ _
      refine hK.out _ _ hb6 (fun hHeld => ?_)
      clear hK K
      refine norm_ (a' := ?_) ?_ ?_
      rotate_left
      · show Act.put _ (some 70) _ = _
        simp only [Act.put, List.setIfInBounds_toArray, List.set_cons_zero, List.set_cons_succ]
        rfl
      refine pure_ (i := 9) (N := some 5) (v := ?_) (a' := ?_) (bt 10 1023) rfl rfl (by kernel_rfl) (fun _ _ _ h => h) (Or.inl ⟨by rfl, ?_⟩) ?_ ?_
      rotate_left
      · intro w'
        go_simp
        first | with_reducible rfl | (simp [Instr.field, go_sem]; rfl)
      rotate_left
      · simp only [Act.put, List.setIfInBounds_toArray, List.set_cons_zero, List.set_cons_succ]
        rfl
      refine done_ (by kernel_rfl) ?_
      have hb := hb6
      clear hHeld HS1 HP1 hb6
      have HQ := Aside0.mk (Kd.R_lower ho HB.out.size)
      clear ho
      have n0_ := Aside0.mk (below_step HB.out hb)
      have n1_ := Aside0.mk (blk_below BKg1.out hb)
      have n2_ := Aside0.mk (Kd.R_below HL.out hb)
      clear HB BKg1 HL
      have HB := n0_
      have BKg1 := n1_
      have HL := n2_
      clear n0_ n1_ n2_
      clear hb
      (try clear cg1); have cg1 := fun i => blk_cell BKg1.out i
      go_wp2
    rotate_left 2
    focus
      have hb := below_drew1 (Below.refl w6.heap.size w6)
      refine start_ (n := 10) (S := fun w' => Below w6.heap.size w6 w') (ds := []) (bt 10 0) (by kernel_rfl) rfl (by kernel_rfl) hb (fun hHeld => ?_)
      clear hb
      try clear cg1
      refine pure_ (i := 0) (N := some 98) (v := ?_) (a' := ?_) (bt 10 1) rfl rfl (by kernel_rfl) (fun _ _ _ h => h) (Or.inl ⟨by rfl, ?_⟩) ?_ ?_
      rotate_left
      · intro w'
        go_simp
        first | with_reducible rfl | (simp [Instr.field, go_sem]; rfl)
      rotate_left
      · simp only [Act.put, List.setIfInBounds_toArray, List.set_cons_zero, List.set_cons_succ]
        rfl
      refine take_ (i := 1) (N := some 99) (v := ?_) (a' := ?_) (bt 10 3) rfl rfl (by kernel_rfl) (fun _ _ _ h => h) (Or.inl ⟨by rfl, ?_⟩) hHeld ?_ ?_
      rotate_left
      · intro w' hS
        have f_ := fun i => blk_cell (blk_below BKg1.out hS) i
        go_simp
        first | with_reducible rfl | (simp [Instr.field, go_sem]; rfl)
      rotate_left
      · simp only [Act.put, List.setIfInBounds_toArray, List.set_cons_zero, List.set_cons_succ]
        rfl
      refine pure_ (i := 2) (N := some 100) (v := ?_) (a' := ?_) (bt 10 7) rfl rfl (by kernel_rfl) (fun _ _ _ h => h) (Or.inl ⟨by rfl, ?_⟩) ?_ ?_
      rotate_left
      · intro w'
        go_simp
        first | with_reducible rfl | (simp [Instr.field, go_sem]; rfl)
      rotate_left
      · simp only [Act.put, List.setIfInBounds_toArray, List.set_cons_zero, List.set_cons_succ]
        rfl
      refine pure_ (i := 3) (N := some 101) (v := ?_) (a' := ?_) (bt 10 15) rfl rfl (by kernel_rfl) (fun _ _ _ h => h) (Or.inl ⟨by rfl, ?_⟩) ?_ ?_
      rotate_left
      · intro w'
        go_simp
        first | with_reducible rfl | (simp [Instr.field, go_sem]; rfl)
      rotate_left
      · simp only [Act.put, List.setIfInBounds_toArray, List.set_cons_zero, List.set_cons_succ]
        rfl
      refine pure_ (i := 5) (N := some 103) (v := ?_) (a' := ?_) (bt 10 47) rfl rfl (by kernel_rfl) (fun _ _ _ h => h) (Or.inl ⟨by rfl, ?_⟩) ?_ ?_
      rotate_left
      · intro w'
        go_simp
        first | with_reducible rfl | (simp [Instr.field, go_sem]; rfl)
      rotate_left
      · simp only [Act.put, List.setIfInBounds_toArray, List.set_cons_zero, List.set_cons_succ]
        rfl
      refine take_ (i := 6) (N := some 104) (v := ?_) (a' := ?_) (bt 10 111) rfl rfl (by kernel_rfl) (fun _ _ _ h => h) (Or.inl ⟨by rfl, ?_⟩) hHeld ?_ ?_
      rotate_left
      · intro w' hS
        have f_ := fun i => blk_cell (blk_below BKg1.out hS) i
        go_simp
        first | with_reducible rfl | (simp [Instr.field, go_sem]; rfl)
      rotate_left
      · simp only [Act.put, List.setIfInBounds_toArray, List.set_cons_zero, List.set_cons_succ]
        rfl
      refine join_ (σ := Value × Value) 2 (bt 10 255) (fun s_ => [(102, s_.1), (105, s_.2)]) (fun s_ w' => (Kd.int .u8).R 5 w' w6.heap.size (fun _ => True) s_.1 [((putW x.f9).length : Int) % 256] ∧ (Kd.int .u8).R 5 w' w6.heap.size (fun _ => True) s_.2 (putW x.f9) ∧ Below w6.heap.size w6 w') ?_ ?_
      rotate_left
      · intro hJ
        refine two_ (i := 4) (j := 7) (Ni := some 102) (Nj := some 105) (bt 10 127) (bt 10 239) rfl rfl rfl rfl (by kernel_rfl) (by decide) (by decide) (fun K hK => ?_) (fun K hK => ?_)
        · skip
          refine Kd.R_lit_step (Kd.int .u8) (w0 := w6) w6.heap.size 5 ?hg (N := 102) ?hd (xs := [((putW x.f9).length : Int) % 256]) (inner := [.int .u8 (((putW x.f9).length : Int) % 256)]) (ok := fun _ => True) (okp := fun _ => False) ?hr ?hp (fun _ hk => hk.elim) trivial hHeld hHeld.size (by simp) ?_
          case hd => rfl
          case hg => rfl
          case hr => first | (go_simp; done) | (go_simp; rfl)
          case hp => exact (Reps.one (show Kd.M (Kd.int .u8) _ _ _ (((putW x.f9).length : Int) % 256) [.int .u8 (((putW x.f9).length : Int) % 256)] from rfl) (Reps.none _ _))
          intro vs ws ho hb1 hgr _
          refine hK.out _ _ hb1 (fun _ => ?_)
          clear hK K
          refine norm_ (a' := ?_) ?_ ?_
          rotate_left
          · show Act.put _ (some 102) _ = _
            simp only [Act.put, List.setIfInBounds_toArray, List.set_cons_zero, List.set_cons_succ]
            rfl
          refine one_ (i := 7) (N := some 105) (bt 10 255) rfl rfl (by kernel_rfl) (by decide) (fun K hK => ?_)
          refine goes_ Try.func41 (by kernel_rfl) rfl #[.slice A9 x.f9.length c9] (by rfl) rfl rfl (by (try simp only [List.map_toArray, List.map_cons, List.map_nil]); first | done | rfl) ?_
          refine (As.rputs (Kd.C_below G9.out (below_step HB.out hb1)) K9.out H16.out (by have := H9.out; omega)).mono ?_
          rintro e wp ⟨vp, rfl, hp, hb2⟩
          refine ⟨_, rfl, ?_⟩
          refine hK.out _ _ (below_step hb1 hb2) (fun _ => ?_)
          clear hK K
          refine norm_ (a' := ?_) ?_ ?_
          rotate_left
          · show Act.put _ (some 105) _ = _
            simp only [Act.put, List.setIfInBounds_toArray, List.set_cons_zero, List.set_cons_succ]
            rfl
          exact norm_ (by simp only [putAll, Act.put, List.setIfInBounds_toArray, List.set_cons_zero, List.set_cons_succ] <;> rfl) (hJ (vs, vp) _ ⟨Kd.R_below ho hb2, Kd.R_lower hp hb1.size, below_step hb1 hb2⟩)
        · skip
          refine goes_ Try.func41 (by kernel_rfl) rfl #[.slice A9 x.f9.length c9] (by rfl) rfl rfl (by (try simp only [List.map_toArray, List.map_cons, List.map_nil]); first | done | rfl) ?_
          refine (As.rputs (Kd.C_below G9.out (below_step HB.out hHeld)) K9.out H16.out (by have := H9.out; omega)).mono ?_
          rintro e wp ⟨vp, rfl, hp, hb2⟩
          refine ⟨_, rfl, ?_⟩
          have hb3 := below_step hHeld hb2
          refine hK.out _ _ hb3 (fun _ => ?_)
          clear hK K
          refine norm_ (a' := ?_) ?_ ?_
          rotate_left
          · show Act.put _ (some 105) _ = _
            simp only [Act.put, List.setIfInBounds_toArray, List.set_cons_zero, List.set_cons_succ]
            rfl
          refine one_ (i := 4) (N := some 102) (bt 10 255) rfl rfl (by kernel_rfl) (by decide) (fun K hK => ?_)
          refine Kd.R_lit_step (Kd.int .u8) (w0 := w6) w6.heap.size 5 ?hg (N := 102) ?hd (xs := [((putW x.f9).length : Int) % 256]) (inner := [.int .u8 (((putW x.f9).length : Int) % 256)]) (ok := fun _ => True) (okp := fun _ => False) ?hr ?hp (fun _ hk => hk.elim) trivial hb3 hb3.size (by simp) ?_
          case hd => rfl
          case hg => rfl
          case hr => first | (go_simp; done) | (go_simp; rfl)
          case hp => exact (Reps.one (show Kd.M (Kd.int .u8) _ _ _ (((putW x.f9).length : Int) % 256) [.int .u8 (((putW x.f9).length : Int) % 256)] from rfl) (Reps.none _ _))
          intro vs ws ho hb1 hgr _
          refine hK.out _ _ hb1 (fun _ => ?_)
          clear hK K
          refine norm_ (a' := ?_) ?_ ?_
          rotate_left
          · show Act.put _ (some 102) _ = _
            simp only [Act.put, List.setIfInBounds_toArray, List.set_cons_zero, List.set_cons_succ]
            rfl
          exact norm_ (by simp only [putAll, Act.put, List.setIfInBounds_toArray, List.set_cons_zero, List.set_cons_succ] <;> rfl) (hJ (vs, vp) _ ⟨ho, Kd.R_grown (Kd.R_lower hp hHeld.size) hgr (fun _ _ => by simp), hb1⟩)
      clear hHeld
      rintro ⟨vs, vp⟩ wj ⟨hs, hp, hHeld⟩
      dsimp only at hs hp
      obtain ⟨As_, cs_, es_⟩ := Kd.R_slice hs
      subst es_
      obtain ⟨Ap_, cp_, ep_⟩ := Kd.R_slice hp
      subst ep_
      have HS1 := Aside0.mk hs
      have HP1 := Aside0.mk hp
      clear hs hp
      refine norm_ (a' := ?_) ?_ ?_
      rotate_left
      · simp only [putAll, Act.put, List.setIfInBounds_toArray, List.set_cons_zero, List.set_cons_succ]
        rfl
      refine one_ (i := 8) (N := some 106) (bt 10 511) rfl rfl (by kernel_rfl) (by decide) (fun K hK => ?_)
      refine Kd.R_append_rows_step (Kd.int .u8) (w0 := w6) w6.heap.size (by rfl) (.tmp 102) (.tmp 105) 28 5 (.int .u8 0) 1 rfl Try.underlying28 As.byte rfl (by decide) (by omega) _ [((putW x.f9).length : Int) % 256] (putW x.f9) _ _ _ (fun _ => True) (fun _ => False) rfl rfl HS1.out (Kd.R_reads' HP1.out).2.2 (fun _ _ h => h) (fun _ h => h.elim) (fun _ _ => trivial) hHeld hHeld.size (by have := H9.out; rw [putW_length]; simp; omega) ?_
      intro va w6 ho hb6 _ _
      refine hK.out _ _ hb6 (fun hHeld => ?_)
      clear hK K
      refine norm_ (a' := ?_) ?_ ?_
      rotate_left
      · show Act.put _ (some 106) _ = _
        simp only [Act.put, List.setIfInBounds_toArray, List.set_cons_zero, List.set_cons_succ]
        rfl
      refine pure_ (i := 9) (N := some 5) (v := ?_) (a' := ?_) (bt 10 1023) rfl rfl (by kernel_rfl) (fun _ _ _ h => h) (Or.inl ⟨by rfl, ?_⟩) ?_ ?_
      rotate_left
      · intro w'
        go_simp
        first | with_reducible rfl | (simp [Instr.field, go_sem]; rfl)
      rotate_left
      · simp only [Act.put, List.setIfInBounds_toArray, List.set_cons_zero, List.set_cons_succ]
        rfl
      refine done_ (by kernel_rfl) ?_
      have hb := hb6
      clear hHeld HS1 HP1 hb6
      have HQ := Aside0.mk (Kd.R_lower ho HB.out.size)
      clear ho
      have n0_ := Aside0.mk (below_step HB.out hb)
      have n1_ := Aside0.mk (blk_below BKg1.out hb)
      have n2_ := Aside0.mk (Kd.R_below HL.out hb)
      clear HB BKg1 HL
      have HB := n0_
      have BKg1 := n1_
      have HL := n2_
      clear n0_ n1_ n2_
      clear hb
      (try clear cg1); have cg1 := fun i => blk_cell BKg1.out i
      go_wp2
    all_goals
      have HL2 := Aside0.mk (show (Kd.int .u16).R 59 w6 w.heap.size (fun _ => True) _ (As.nums x) from by rw [HN.out]; exact HL.out)
      have HH := Aside0.mk (show (∀ n ∈ As.nums x, 0 ≤ n ∧ n ≤ 65535) ∧ (As.nums x).length ≤ 10 by rw [HN.out]; have := HG.out; simp; omega)
      have HRL := Aside0.mk (show (As.rest x).length ≤ 10000 by rw [HR.out]; have := H9.out; first | (simp; done) | (unfold As.sized; rw [List.length_cons, pk_len]; unfold szN; omega) | (unfold As.sized; rw [List.length_cons, putW_length]; omega))
      first | (replace HQ : Aside0 ((Kd.int .u8).R 5 w6 w.heap.size (fun _ => True) _ (As.rest x)) := ⟨by rw [HR.out]; exact HQ.out⟩; obtain ⟨Aq, cq, eq_⟩ := Kd.R_slice HQ.out; subst eq_) | (have HQ := Aside0.mk (show (Kd.int .u8).R 5 w6 w.heap.size (fun _ => True) (.slice none 0 0) (As.rest x) by rw [HR.out]; exact Kd.R_nil _ _ _ _ _))
      obtain ⟨Al, cl, el⟩ := Kd.R_slice HL2.out
      subst el
      clear HL HN HG HR H9 d1 d2 d3 d4 d5 d6 d15 d16 d22 d23
      have hb := below_drew1 (Below.refl w6.heap.size w6)
      refine start_ (n := 8) (S := fun w' => Below w6.heap.size w6 w') (ds := []) (bt 8 0) (by kernel_rfl) rfl (by kernel_rfl) hb (fun hHeld => ?_)
      clear hb
      try clear cg1
      refine pure_ (i := 0) (N := some 107) (v := ?_) (a' := ?_) (bt 8 1) rfl rfl (by kernel_rfl) (fun _ _ _ h => h) (Or.inl ⟨by rfl, ?_⟩) ?_ ?_
      rotate_left
      · intro w'
        go_simp
        first | with_reducible rfl | (simp [Instr.field, go_sem]; rfl)
      rotate_left
      · simp only [Act.put, List.setIfInBounds_toArray, List.set_cons_zero, List.set_cons_succ]
        rfl
      refine take_ (i := 1) (N := some 108) (v := ?_) (a' := ?_) (bt 8 3) rfl rfl (by kernel_rfl) (fun _ _ _ h => h) (Or.inl ⟨by rfl, ?_⟩) hHeld ?_ ?_
      rotate_left
      · intro w' hS
        have f_ := fun i => blk_cell (blk_below BKg1.out hS) i
        go_simp
        first | with_reducible rfl | (simp [Instr.field, go_sem]; rfl)
      rotate_left
      · simp only [Act.put, List.setIfInBounds_toArray, List.set_cons_zero, List.set_cons_succ]
        rfl
      refine pure_ (i := 2) (N := some 109) (v := ?_) (a' := ?_) (bt 8 7) rfl rfl (by kernel_rfl) (fun _ _ _ h => h) (Or.inl ⟨by rfl, ?_⟩) ?_ ?_
      rotate_left
      · intro w'
        go_simp
        first | with_reducible rfl | (simp [Instr.field, go_sem]; rfl)
      rotate_left
      · simp only [Act.put, List.setIfInBounds_toArray, List.set_cons_zero, List.set_cons_succ]
        rfl
      refine pure_ (i := 4) (N := some 111) (v := ?_) (a' := ?_) (bt 8 23) rfl rfl (by kernel_rfl) (fun _ _ _ h => h) (Or.inl ⟨by rfl, ?_⟩) ?_ ?_
      rotate_left
      · intro w'
        go_simp
        first | with_reducible rfl | (simp [Instr.field, go_sem]; rfl)
      rotate_left
      · simp only [Act.put, List.setIfInBounds_toArray, List.set_cons_zero, List.set_cons_succ]
        rfl
      refine join_ (σ := Value × Value) 2 (bt 8 63) (fun s_ => [(110, s_.1), (112, s_.2)]) (fun s_ w' => (Kd.int .u8).R 5 w' w6.heap.size (fun _ => True) s_.1 [x.f0] ∧ (Kd.int .u8).R 5 w' w6.heap.size (fun _ => True) s_.2 (putW (As.nums x)) ∧ Below w6.heap.size w6 w') ?_ ?_
      rotate_left
      · intro hJ
        refine two_ (i := 3) (j := 5) (Ni := some 110) (Nj := some 112) (bt 8 31) (bt 8 55) rfl rfl rfl rfl (by kernel_rfl) (by decide) (by decide) (fun K hK => ?_) (fun K hK => ?_)
        · skip
          refine Kd.R_lit_step (Kd.int .u8) (w0 := w6) w6.heap.size 5 ?hg (N := 110) ?hd (xs := [x.f0]) (inner := [.int .u8 (x.f0)]) (ok := fun _ => True) (okp := fun _ => False) ?hr ?hp (fun _ hk => hk.elim) trivial hHeld hHeld.size (by simp) ?_
          case hd => rfl
          case hg => rfl
          case hr => first | (go_simp; done) | (go_simp; rfl)
          case hp => exact (Reps.one (show Kd.M (Kd.int .u8) _ _ _ (x.f0) [.int .u8 (x.f0)] from rfl) (Reps.none _ _))
          intro vs ws ho hb1 hgr _
          refine hK.out _ _ hb1 (fun _ => ?_)
          clear hK K
          refine norm_ (a' := ?_) ?_ ?_
          rotate_left
          · show Act.put _ (some 110) _ = _
            simp only [Act.put, List.setIfInBounds_toArray, List.set_cons_zero, List.set_cons_succ]
            rfl
          refine one_ (i := 5) (N := some 112) (bt 8 63) rfl rfl (by kernel_rfl) (by decide) (fun K hK => ?_)
          refine goes_ Try.func41 (by kernel_rfl) rfl #[.slice Al (As.nums x).length cl] (by rfl) rfl rfl (by (try simp only [List.map_toArray, List.map_cons, List.map_nil]); first | done | rfl) ?_
          refine (As.rputs (Kd.C_below (Kd.R_reads' HL2.out).2.2 hb1) (Kd.R_reads' HL2.out).2.1 HH.out.1 (by have := HH.out.2; omega)).mono ?_
          rintro e wp ⟨vp, rfl, hp, hb2⟩
          refine ⟨_, rfl, ?_⟩
          refine hK.out _ _ (below_step hb1 hb2) (fun _ => ?_)
          clear hK K
          refine norm_ (a' := ?_) ?_ ?_
          rotate_left
          · show Act.put _ (some 112) _ = _
            simp only [Act.put, List.setIfInBounds_toArray, List.set_cons_zero, List.set_cons_succ]
            rfl
          exact norm_ (by simp only [putAll, Act.put, List.setIfInBounds_toArray, List.set_cons_zero, List.set_cons_succ] <;> rfl) (hJ (vs, vp) _ ⟨Kd.R_below ho hb2, Kd.R_lower hp hb1.size, below_step hb1 hb2⟩)
        · skip
          refine goes_ Try.func41 (by kernel_rfl) rfl #[.slice Al (As.nums x).length cl] (by rfl) rfl rfl (by (try simp only [List.map_toArray, List.map_cons, List.map_nil]); first | done | rfl) ?_
          refine (As.rputs (Kd.C_below (Kd.R_reads' HL2.out).2.2 hHeld) (Kd.R_reads' HL2.out).2.1 HH.out.1 (by have := HH.out.2; omega)).mono ?_
          rintro e wp ⟨vp, rfl, hp, hb2⟩
          refine ⟨_, rfl, ?_⟩
          have hb3 := below_step hHeld hb2
          refine hK.out _ _ hb3 (fun _ => ?_)
          clear hK K
          refine norm_ (a' := ?_) ?_ ?_
          rotate_left
          · show Act.put _ (some 112) _ = _
            simp only [Act.put, List.setIfInBounds_toArray, List.set_cons_zero, List.set_cons_succ]
            rfl
          refine one_ (i := 3) (N := some 110) (bt 8 63) rfl rfl (by kernel_rfl) (by decide) (fun K hK => ?_)
          refine Kd.R_lit_step (Kd.int .u8) (w0 := w6) w6.heap.size 5 ?hg (N := 110) ?hd (xs := [x.f0]) (inner := [.int .u8 (x.f0)]) (ok := fun _ => True) (okp := fun _ => False) ?hr ?hp (fun _ hk => hk.elim) trivial hb3 hb3.size (by simp) ?_
          case hd => rfl
          case hg => rfl
          case hr => first | (go_simp; done) | (go_simp; rfl)
          case hp => exact (Reps.one (show Kd.M (Kd.int .u8) _ _ _ (x.f0) [.int .u8 (x.f0)] from rfl) (Reps.none _ _))
          intro vs ws ho hb1 hgr _
          refine hK.out _ _ hb1 (fun _ => ?_)
          clear hK K
          refine norm_ (a' := ?_) ?_ ?_
          rotate_left
          · show Act.put _ (some 110) _ = _
            simp only [Act.put, List.setIfInBounds_toArray, List.set_cons_zero, List.set_cons_succ]
            rfl
          exact norm_ (by simp only [putAll, Act.put, List.setIfInBounds_toArray, List.set_cons_zero, List.set_cons_succ] <;> rfl) (hJ (vs, vp) _ ⟨ho, Kd.R_grown (Kd.R_lower hp hHeld.size) hgr (fun _ _ => by simp), hb1⟩)
      clear hHeld
      rintro ⟨vs, vp⟩ wj ⟨hs, hp, hHeld⟩
      dsimp only at hs hp
      obtain ⟨As_, cs_, es_⟩ := Kd.R_slice hs
      subst es_
      obtain ⟨Ap_, cp_, ep_⟩ := Kd.R_slice hp
      subst ep_
      have HS1 := Aside0.mk hs
      have HP1 := Aside0.mk hp
      clear hs hp
      refine norm_ (a' := ?_) ?_ ?_
      rotate_left
      · simp only [putAll, Act.put, List.setIfInBounds_toArray, List.set_cons_zero, List.set_cons_succ]
        rfl
      refine one_ (i := 6) (N := some 113) (bt 8 127) rfl rfl (by kernel_rfl) (by decide) (fun K hK => ?_)
      refine Kd.R_append_rows_step (Kd.int .u8) (w0 := w6) w6.heap.size (by rfl) (.tmp 110) (.tmp 112) 28 5 (.int .u8 0) 1 rfl Try.underlying28 As.byte rfl (by decide) (by omega) _ [x.f0] (putW (As.nums x)) _ _ _ (fun _ => True) (fun _ => False) rfl rfl HS1.out (Kd.R_reads' HP1.out).2.2 (fun _ _ h => h) (fun _ h => h.elim) (fun _ _ => trivial) hHeld hHeld.size (by have := HH.out.2; rw [putW_length]; simp; omega) ?_
      intro va w6 ho hb6 _ _
      refine hK.out _ _ hb6 (fun hHeld => ?_)
      clear hK K
      refine norm_ (a' := ?_) ?_ ?_
      rotate_left
      · show Act.put _ (some 113) _ = _
        simp only [Act.put, List.setIfInBounds_toArray, List.set_cons_zero, List.set_cons_succ]
        rfl
      refine pure_ (i := 7) (N := some 7) (v := ?_) (a' := ?_) (bt 8 255) rfl rfl (by kernel_rfl) (fun _ _ _ h => h) (Or.inl ⟨by rfl, ?_⟩) ?_ ?_
      rotate_left
      · intro w'
        go_simp
        first | with_reducible rfl | (simp [Instr.field, go_sem]; rfl)
      rotate_left
      · simp only [Act.put, List.setIfInBounds_toArray, List.set_cons_zero, List.set_cons_succ]
        rfl
      refine done_ (by kernel_rfl) ?_
      have hb := hb6
      clear hHeld HS1 HP1 hb6
      have HO7 := Aside0.mk (Kd.R_lower ho HB.out.size)
      clear ho
      obtain ⟨A7, c7, e7⟩ := Kd.R_slice HO7.out
      subst e7
      have n0_ := Aside0.mk (below_step HB.out hb)
      have n1_ := Aside0.mk (Kd.R_below HQ.out hb)
      clear HB HQ
      have HB := n0_
      have HQ := n1_
      clear n0_ n1_
      clear hb
      go_wp2_with (first
        | ((with_reducible refine gate_builtin (b := .append) (xs := #[.tmp 114, .tmp 115]) rfl ?_); at_builtin; refine Kd.R_append_rows (Kd.int .u8) (w0 := w) w.heap.size rfl (.tmp 114) (.tmp 115) 28 5 (.int .u8 0) 1 rfl Try.underlying28 As.byte rfl (by decide) (by omega) _ ([x.f0] ++ putW (As.nums x)) (As.rest x) _ _ _ (fun _ => True) (fun _ => False) rfl rfl HO7.out (As.Cof HQ.out) (fun _ _ h => h) (fun _ h => h.elim) (fun _ _ => trivial) HB.out HB.out.size (by have h1 := HH.out.2; have h2 := HRL.out; have h3 := (Kd.R_reads' HQ.out).1; rw [List.length_append, putW_length]; simp; omega) ?_; intro vz wz ho hb _ _; have HZ := Aside0.mk ho; clear ho HB; have HB := Aside0.mk hb; clear hb))
      go_ret2
      exact ⟨_, rfl, by rw [show As.say x = [x.f0] ++ putW (As.nums x) ++ As.rest x by simp [As.say]]; exact HZ.out, HB.out⟩

end Go.Proofs.Ytedfbemifigoeaa.P
