import Derived.Test.YtedfbemifigoeaaX
import Derived.Test.YtedfbemifigoeaaAd
import Derived.Test.YtedfbemifigoeaaAe
import Derived.Test.YtedfbemifigoeaaLWord
import Derived.Test.YtedfbemifigoeaaLBits
namespace Go.Proofs.Ytedfbemifigoeaa.P
open Go.RowKit Go.Proofs.YtedfbemifigoeaaW.PrintWords Go.Proofs.YtedfbemifigoeaaW.PrintLast Go.Proofs.YtedfbemifigoeaaW.PrintMore
attribute [local go_sem] max2_int min2_int max_two min_two max_three min_three max_four min_four   -- for this text's walks alone
set_option linter.unusedVariables false
set_option linter.unusedSimpArgs false

open Go.Proofs.Ytedfbemifigoeaa.L

theorem As.rows_ev {ops : Array Oper} {oi : Oper} {a : Act} {w : World} {K : Act → World → Prop} {Q : Exit → Act → World → Prop} {N : Tmp} (hw : Region.wanted oi (yielded ops a.tmps) = true) (hd : oi.dst = some N) {cs : Array Value} {t : TypeId} {n : Nat}
    (hrun : (execOp a.eval oi).run Try.prog w = .ok (.value (.slice (some ⟨w.heap.size, 0, none⟩) n n)) (w.alloc (.cells cs t (0, 0))))
    (h : ∀ g, g = w.heap.size → ∀ w1, w1.heap[g]? = some (.cells cs t (0, 0)) → Below w.heap.size w w1 → K (a.put (some N) (.slice (some ⟨g, 0, none⟩) n n)) w1) : if Region.wanted oi (yielded ops a.tmps) = true then Oper.wp Try.prog oi a w K Q else K (a.put (some N) undef) w :=
  value_ hw hd hrun (h _ rfl _ (blk_new w _) (below_alloc (Below.refl _ _) _))
theorem As.rows3 {w : World} {g t : Nat} {l1 l2 l3 : List Int} {A1 A2 A3 : Option Addr} {c1 c2 c3 n1 n2 n3 : Nat} (h : w.heap[g]? = some (.cells #[.slice A1 n1 c1, .slice A2 n2 c2, .slice A3 n3 c3] t (0, 0))) (e1 : n1 = l1.length) (e2 : n2 = l2.length) (e3 : n3 = l3.length) (k1 : n1 ≤ c1) (h1 : (Kd.int .u8).C w A1 l1.length l1) (k2 : n2 ≤ c2) (h2 : (Kd.int .u8).C w A2 l2.length l2) (k3 : n3 ≤ c3) (h3 : (Kd.int .u8).C w A3 l3.length l3) : Kd.C (Kd.slice 5 (Kd.int .u8)) w (some ⟨g, 0, none⟩) 3 [l1, l2, l3] := by
  subst e1 e2 e3
  refine ⟨rfl, by decide, fun _ => ⟨⟨g, 0, none⟩, rfl, fun j p hj => ?_⟩⟩
  match j, hj with
  | 0, hj => cases hj; exact ⟨[.slice A1 l1.length c1], rfl, ⟨A1, c1, rfl, k1, h1⟩, fun i u hu => by match i, hu with | 0, hu => cases hu; exact (blk_cell h 0).trans rfl⟩
  | 1, hj => cases hj; exact ⟨[.slice A2 l2.length c2], rfl, ⟨A2, c2, rfl, k2, h2⟩, fun i u hu => by match i, hu with | 0, hu => cases hu; exact (blk_cell h 1).trans rfl⟩
  | 2, hj => cases hj; exact ⟨[.slice A3 l3.length c3], rfl, ⟨A3, c3, rfl, k3, h3⟩, fun i u hu => by match i, hu with | 0, hu => cases hu; exact (blk_cell h 2).trans rfl⟩
set_option maxHeartbeats 16000000 in
set_option maxRecDepth 100000 in
theorem As.prints {w : World} {cs : Array Value} {x : S25} (h : As.V w cs x) (hf : As.Fit x) (h16 : ∀ n ∈ x.f9, 0 ≤ n ∧ n ≤ 65535) {b : Bool} (he : As.right x = b) : Calls Try.prog 12 #[.agg cs] w fun e w' => ∃ v, e = .returned (.tuple #[v, .int .i64 (if b = true then 0 else 11)]) ∧ (Kd.int .u8).R 5 w' w.heap.size (fun _ => True) v (As.print x) ∧ Below w.heap.size w w' := by
  have HV := Aside0.mk h
  obtain ⟨A8, c8, A9, c9, rfl, k8, g8, k9, g9⟩ := As.open h
  have K8 := Aside0.mk k8
  have G8 := Aside0.mk g8
  have K9 := Aside0.mk k9
  have G9 := Aside0.mk g9
  clear h k8 g8 k9 g9
  have HF := Aside0.mk hf
  have H16 := Aside0.mk h16
  clear hf h16
  have hu := Try.underlying25
  have HB := Aside0.mk (Below.refl w.heap.size w)
  cases b with
  | false =>
    rw [show As.print x = [] from by unfold As.print; rw [he]; rfl]
    go_enter Try.func12, Try.ntmps12
    go_wp2_with (first
      | ((with_reducible refine gate_dst (N := 1) rfl ?_); refine box_event ?hg (N := 1) ?hd (cs := #[.int .i64 x.f0, .int .i64 x.f1, .int .i64 x.f2, .int .i64 x.f3, .int .i64 x.f4, .int .i64 x.f5, .int .i64 x.f6, .int .i64 x.f7, .slice A8 x.f8.length c8, .slice A9 x.f9.length c9]) (t := 25) ?hr ?_; (case hd => rfl); (case hg => rfl); (case hr => first | (go_simp; done) | (go_simp; rfl)); intro g1 hg w1 hbox hb; have GEg1 := Aside0.mk ((by rw [hg]; exact HB.out.size) : w.heap.size ≤ g1); have BKg1 := Aside0.mk hbox; clear hbox hg; have n0_ := Aside0.mk (below_step HB.out hb); clear HB; have HB := n0_; clear n0_; skip; clear hb)
      | (refine wpList_load_row rfl 25 _ rfl g1 rfl 25 _ (0, 0) _ BKg1.out hu rfl (by kernel_rfl) ?_)
      | (go_at_call 14; (with_reducible refine (As.rights (As.V_below HV.out HB.out) HF.out he).mono ?_); rintro r w2 ⟨rfl, hb⟩; have n0_ := Aside0.mk (below_step HB.out hb); have n1_ := Aside0.mk (blk_below BKg1.out hb); clear HB BKg1; have HB := n0_; have BKg1 := n1_; clear n0_ n1_; (try clear cg1); have cg1 := fun i => blk_cell BKg1.out i; clear hb))
    go_ret2
    exact ⟨_, rfl, Kd.R_nil _ _ _ _ _, HB.out⟩
  | true =>
    rw [show As.print x = As.say x from by unfold As.print; rw [he]; rfl]
    obtain ⟨hw0, hf0, hfacts⟩ := As.facts he
    have HF0 := Aside0.mk hf0
    clear hf0
    rcases hfacts with ⟨d1, d2, d3, d4, d5, d6, d15, d16, d22, d23, hn, hr, hrg, h9⟩ | ⟨d1, d2, d3, d4, d5, d6, d15, d16, d22, d23, hn, hr, hrg, h9⟩ | ⟨d1, d2, d3, d4, d5, d6, d15, d16, d22, d23, hn, hr, hrg, h9⟩ | ⟨d1, d2, d3, d4, d5, d6, d15, d16, d22, d23, hn, hr, hrg, h9⟩ | ⟨d1, d2, d3, d4, d5, d6, d15, d16, d22, d23, hn, hr, hrg, h9⟩ | ⟨d1, d2, d3, d4, d5, d6, d15, d16, d22, d23, hn, hr, hrg, h9⟩ | ⟨d1, d2, d3, d4, d5, d6, d15, d16, d22, d23, hn, hr, hrg, h9⟩ | ⟨d1, d2, d3, d4, d5, d6, d15, d16, d22, d23, hn, hr, hrg, h9⟩ | ⟨d1, d2, d3, d4, d5, d6, d15, d16, d22, d23, hn, hr, hrg, h9⟩ | ⟨d1, d2, d3, d4, d5, d6, d15, d16, d22, d23, hn, hr, hrg, h9⟩
    all_goals
      have HN := Aside0.mk hn
      have HR := Aside0.mk hr
      have HG := Aside0.mk hrg
      have H9 := Aside0.mk h9
      clear hn hr hrg h9
      go_enter Try.func12, Try.ntmps12
      go_wp2_with (first
        | ((with_reducible refine gate_dst (N := 1) rfl ?_); refine box_event ?hg (N := 1) ?hd (cs := #[.int .i64 x.f0, .int .i64 x.f1, .int .i64 x.f2, .int .i64 x.f3, .int .i64 x.f4, .int .i64 x.f5, .int .i64 x.f6, .int .i64 x.f7, .slice A8 x.f8.length c8, .slice A9 x.f9.length c9]) (t := 25) ?hr ?_; (case hd => rfl); (case hg => rfl); (case hr => first | (go_simp; done) | (go_simp; rfl)); intro g1 hg w1 hbox hb; have GEg1 := Aside0.mk ((by rw [hg]; exact HB.out.size) : w.heap.size ≤ g1); have BKg1 := Aside0.mk hbox; clear hbox hg; have n0_ := Aside0.mk (below_step HB.out hb); clear HB; have HB := n0_; clear n0_; skip; clear hb)
        | (refine wpList_load_row rfl 25 _ rfl g1 rfl 25 _ (0, 0) _ BKg1.out hu rfl (by kernel_rfl) ?_)
        | (go_at_call 14; (with_reducible refine (As.rights (As.V_below HV.out HB.out) HF.out he).mono ?_); rintro r w2 ⟨rfl, hb⟩; have n0_ := Aside0.mk (below_step HB.out hb); have n1_ := Aside0.mk (blk_below BKg1.out hb); clear HB BKg1; have HB := n0_; have BKg1 := n1_; clear n0_ n1_; (try clear cg1); have cg1 := fun i => blk_cell BKg1.out i; clear hb)
        | ((with_reducible refine gate_dst (N := 4) rfl ?_); refine box_event ?hg (N := 4) ?hd (cs := #[.slice none 0 0]) (t := 23) ?hr ?_; (case hd => rfl); (case hg => rfl); (case hr => first | (go_simp; done) | (go_simp; rfl)); intro g4 hg w3 hbox hb; have GE4 := Aside0.mk ((by rw [hg]; exact HB.out.size) : w.heap.size ≤ g4); have NE := Aside0.mk (show g1 ≠ g4 by rw [hg]; exact Nat.ne_of_lt (blk_lt BKg1.out)); have BKg4 := Aside0.mk hbox; obtain ⟨vl, hvl⟩ : ∃ vl : Value, vl = .slice none 0 0 := ⟨_, rfl⟩; rw [← hvl] at BKg4; have HL := Aside0.mk (show (Kd.int .u16).R 59 w3 w.heap.size (fun k => k ≠ g4) vl [] by rw [hvl]; exact Kd.R_nil _ _ _ _ _); have HO1 := Aside0.mk (show some g1 ≠ vl.ownBlock by rw [hvl]; simp [Value.ownBlock]); clear hvl hbox hg; have n0_ := Aside0.mk (below_step HB.out hb); have n1_ := Aside0.mk (blk_below BKg1.out hb); clear HB BKg1; have HB := n0_; have BKg1 := n1_; clear n0_ n1_; clear hb; (try clear cg1); have cg1 := fun i => blk_cell BKg1.out i)
        | ((with_reducible refine gate_dst (N := 29) rfl ?_); refine Kd.R_lit (Kd.int .i64) w.heap.size 3 ?hg (N := 29) ?hd (xs := [x.f1, x.f3]) (inner := [.int .i64 (x.f1), .int .i64 (x.f3)]) (ok := (fun k => k ≠ g4 ∧ some k ≠ vl.ownBlock)) (okp := fun _ => False) ?hr ?hp (fun _ hk => hk.elim) ⟨by have := blk_lt BKg4.out; omega, fun he => absurd (Kd.R_lt HL.out _ he.symm) (Nat.lt_irrefl _)⟩ HB.out HB.out.size (by simp) ?_; (case hd => rfl); (case hg => rfl); (case hr => first | (go_simp; done) | (go_simp; rfl)); (case hp => exact (Reps.one (show Kd.M (Kd.int .i64) _ _ _ (x.f1) [.int .i64 (x.f1)] from rfl) (Reps.one (show Kd.M (Kd.int .i64) _ _ _ (x.f3) [.int .i64 (x.f3)] from rfl) (Reps.none _ _)))); intro vn w5 ho hb0 hgr _; have HS := Aside0.mk ho; have n0_ := Aside0.mk (hb0); have n1_ := Aside0.mk (blk_grown BKg1.out hgr (by simp)); have n2_ := Aside0.mk (blk_grown BKg4.out hgr (by simp)); have n3_ := Aside0.mk (Kd.R_grown HL.out hgr (fun _ _ => by simp)); clear HB BKg1 BKg4 HL; have HB := n0_; have BKg1 := n1_; have BKg4 := n2_; have HL := n3_; clear n0_ n1_ n2_ n3_; clear ho hb0 hgr; obtain ⟨gn, cn, en, -, -, -⟩ := Kd.R_form HS.out (by simp); subst en; replace HS : Aside0 ((Kd.int .i64).R 3 w5 w.heap.size (fun k => k ≠ g4 ∧ some k ≠ vl.ownBlock) (.slice (some ⟨gn, 0, none⟩) 2 cn) [x.f1, x.f3]) := HS; (try clear cg1); have cg1 := fun i => blk_cell BKg1.out i)
        | ((with_reducible refine gate_dst (N := 38) rfl ?_); refine Kd.R_lit (Kd.int .i64) w.heap.size 3 ?hg (N := 38) ?hd (xs := [x.f1, x.f4, x.f5]) (inner := [.int .i64 (x.f1), .int .i64 (x.f4), .int .i64 (x.f5)]) (ok := (fun k => k ≠ g4 ∧ some k ≠ vl.ownBlock)) (okp := fun _ => False) ?hr ?hp (fun _ hk => hk.elim) ⟨by have := blk_lt BKg4.out; omega, fun he => absurd (Kd.R_lt HL.out _ he.symm) (Nat.lt_irrefl _)⟩ HB.out HB.out.size (by simp) ?_; (case hd => rfl); (case hg => rfl); (case hr => first | (go_simp; done) | (go_simp; rfl)); (case hp => exact (Reps.one (show Kd.M (Kd.int .i64) _ _ _ (x.f1) [.int .i64 (x.f1)] from rfl) (Reps.one (show Kd.M (Kd.int .i64) _ _ _ (x.f4) [.int .i64 (x.f4)] from rfl) (Reps.one (show Kd.M (Kd.int .i64) _ _ _ (x.f5) [.int .i64 (x.f5)] from rfl) (Reps.none _ _))))); intro vn w5 ho hb0 hgr _; have HS := Aside0.mk ho; have n0_ := Aside0.mk (hb0); have n1_ := Aside0.mk (blk_grown BKg1.out hgr (by simp)); have n2_ := Aside0.mk (blk_grown BKg4.out hgr (by simp)); have n3_ := Aside0.mk (Kd.R_grown HL.out hgr (fun _ _ => by simp)); clear HB BKg1 BKg4 HL; have HB := n0_; have BKg1 := n1_; have BKg4 := n2_; have HL := n3_; clear n0_ n1_ n2_ n3_; clear ho hb0 hgr; obtain ⟨gn, cn, en, -, -, -⟩ := Kd.R_form HS.out (by simp); subst en; replace HS : Aside0 ((Kd.int .i64).R 3 w5 w.heap.size (fun k => k ≠ g4 ∧ some k ≠ vl.ownBlock) (.slice (some ⟨gn, 0, none⟩) 3 cn) [x.f1, x.f4, x.f5]) := HS; (try clear cg1); have cg1 := fun i => blk_cell BKg1.out i)
        | ((with_reducible refine gate_dst (N := 45) rfl ?_); refine Kd.R_lit (Kd.int .i64) w.heap.size 3 ?hg (N := 45) ?hd (xs := [x.f6, x.f7]) (inner := [.int .i64 (x.f6), .int .i64 (x.f7)]) (ok := (fun k => k ≠ g4 ∧ some k ≠ vl.ownBlock)) (okp := fun _ => False) ?hr ?hp (fun _ hk => hk.elim) ⟨by have := blk_lt BKg4.out; omega, fun he => absurd (Kd.R_lt HL.out _ he.symm) (Nat.lt_irrefl _)⟩ HB.out HB.out.size (by simp) ?_; (case hd => rfl); (case hg => rfl); (case hr => first | (go_simp; done) | (go_simp; rfl)); (case hp => exact (Reps.one (show Kd.M (Kd.int .i64) _ _ _ (x.f6) [.int .i64 (x.f6)] from rfl) (Reps.one (show Kd.M (Kd.int .i64) _ _ _ (x.f7) [.int .i64 (x.f7)] from rfl) (Reps.none _ _)))); intro vn w5 ho hb0 hgr _; have HS := Aside0.mk ho; have n0_ := Aside0.mk (hb0); have n1_ := Aside0.mk (blk_grown BKg1.out hgr (by simp)); have n2_ := Aside0.mk (blk_grown BKg4.out hgr (by simp)); have n3_ := Aside0.mk (Kd.R_grown HL.out hgr (fun _ _ => by simp)); clear HB BKg1 BKg4 HL; have HB := n0_; have BKg1 := n1_; have BKg4 := n2_; have HL := n3_; clear n0_ n1_ n2_ n3_; clear ho hb0 hgr; obtain ⟨gn, cn, en, -, -, -⟩ := Kd.R_form HS.out (by simp); subst en; replace HS : Aside0 ((Kd.int .i64).R 3 w5 w.heap.size (fun k => k ≠ g4 ∧ some k ≠ vl.ownBlock) (.slice (some ⟨gn, 0, none⟩) 2 cn) [x.f6, x.f7]) := HS; (try clear cg1); have cg1 := fun i => blk_cell BKg1.out i)
        | ((with_reducible refine gate_dst (N := 52) rfl ?_); refine Kd.R_lit (Kd.int .i64) w.heap.size 3 ?hg (N := 52) ?hd (xs := [x.f1, x.f2]) (inner := [.int .i64 (x.f1), .int .i64 (x.f2)]) (ok := (fun k => k ≠ g4 ∧ some k ≠ vl.ownBlock)) (okp := fun _ => False) ?hr ?hp (fun _ hk => hk.elim) ⟨by have := blk_lt BKg4.out; omega, fun he => absurd (Kd.R_lt HL.out _ he.symm) (Nat.lt_irrefl _)⟩ HB.out HB.out.size (by simp) ?_; (case hd => rfl); (case hg => rfl); (case hr => first | (go_simp; done) | (go_simp; rfl)); (case hp => exact (Reps.one (show Kd.M (Kd.int .i64) _ _ _ (x.f1) [.int .i64 (x.f1)] from rfl) (Reps.one (show Kd.M (Kd.int .i64) _ _ _ (x.f2) [.int .i64 (x.f2)] from rfl) (Reps.none _ _)))); intro vn w5 ho hb0 hgr _; have HS := Aside0.mk ho; have n0_ := Aside0.mk (hb0); have n1_ := Aside0.mk (blk_grown BKg1.out hgr (by simp)); have n2_ := Aside0.mk (blk_grown BKg4.out hgr (by simp)); have n3_ := Aside0.mk (Kd.R_grown HL.out hgr (fun _ _ => by simp)); clear HB BKg1 BKg4 HL; have HB := n0_; have BKg1 := n1_; have BKg4 := n2_; have HL := n3_; clear n0_ n1_ n2_ n3_; clear ho hb0 hgr; obtain ⟨gn, cn, en, -, -, -⟩ := Kd.R_form HS.out (by simp); subst en; replace HS : Aside0 ((Kd.int .i64).R 3 w5 w.heap.size (fun k => k ≠ g4 ∧ some k ≠ vl.ownBlock) (.slice (some ⟨gn, 0, none⟩) 2 cn) [x.f1, x.f2]) := HS; (try clear cg1); have cg1 := fun i => blk_cell BKg1.out i)
        | ((with_reducible refine gate_dst (N := 63) rfl ?_); refine Kd.R_lit (Kd.int .i64) w.heap.size 3 ?hg (N := 63) ?hd (xs := [x.f1, x.f2]) (inner := [.int .i64 (x.f1), .int .i64 (x.f2)]) (ok := (fun k => k ≠ g4 ∧ some k ≠ vl.ownBlock)) (okp := fun _ => False) ?hr ?hp (fun _ hk => hk.elim) ⟨by have := blk_lt BKg4.out; omega, fun he => absurd (Kd.R_lt HL.out _ he.symm) (Nat.lt_irrefl _)⟩ HB.out HB.out.size (by simp) ?_; (case hd => rfl); (case hg => rfl); (case hr => first | (go_simp; done) | (go_simp; rfl)); (case hp => exact (Reps.one (show Kd.M (Kd.int .i64) _ _ _ (x.f1) [.int .i64 (x.f1)] from rfl) (Reps.one (show Kd.M (Kd.int .i64) _ _ _ (x.f2) [.int .i64 (x.f2)] from rfl) (Reps.none _ _)))); intro vn w5 ho hb0 hgr _; have HS := Aside0.mk ho; have n0_ := Aside0.mk (hb0); have n1_ := Aside0.mk (blk_grown BKg1.out hgr (by simp)); have n2_ := Aside0.mk (blk_grown BKg4.out hgr (by simp)); have n3_ := Aside0.mk (Kd.R_grown HL.out hgr (fun _ _ => by simp)); clear HB BKg1 BKg4 HL; have HB := n0_; have BKg1 := n1_; have BKg4 := n2_; have HL := n3_; clear n0_ n1_ n2_ n3_; clear ho hb0 hgr; obtain ⟨gn, cn, en, -, -, -⟩ := Kd.R_form HS.out (by simp); subst en; replace HS : Aside0 ((Kd.int .i64).R 3 w5 w.heap.size (fun k => k ≠ g4 ∧ some k ≠ vl.ownBlock) (.slice (some ⟨gn, 0, none⟩) 2 cn) [x.f1, x.f2]) := HS; (try clear cg1); have cg1 := fun i => blk_cell BKg1.out i)
        | ((with_reducible refine gate_dst (N := 74) rfl ?_); refine Kd.R_lit (Kd.int .i64) w.heap.size 3 ?hg (N := 74) ?hd (xs := [x.f1, x.f2]) (inner := [.int .i64 (x.f1), .int .i64 (x.f2)]) (ok := (fun k => k ≠ g4 ∧ some k ≠ vl.ownBlock)) (okp := fun _ => False) ?hr ?hp (fun _ hk => hk.elim) ⟨by have := blk_lt BKg4.out; omega, fun he => absurd (Kd.R_lt HL.out _ he.symm) (Nat.lt_irrefl _)⟩ HB.out HB.out.size (by simp) ?_; (case hd => rfl); (case hg => rfl); (case hr => first | (go_simp; done) | (go_simp; rfl)); (case hp => exact (Reps.one (show Kd.M (Kd.int .i64) _ _ _ (x.f1) [.int .i64 (x.f1)] from rfl) (Reps.one (show Kd.M (Kd.int .i64) _ _ _ (x.f2) [.int .i64 (x.f2)] from rfl) (Reps.none _ _)))); intro vn w5 ho hb0 hgr _; have HS := Aside0.mk ho; have n0_ := Aside0.mk (hb0); have n1_ := Aside0.mk (blk_grown BKg1.out hgr (by simp)); have n2_ := Aside0.mk (blk_grown BKg4.out hgr (by simp)); have n3_ := Aside0.mk (Kd.R_grown HL.out hgr (fun _ _ => by simp)); clear HB BKg1 BKg4 HL; have HB := n0_; have BKg1 := n1_; have BKg4 := n2_; have HL := n3_; clear n0_ n1_ n2_ n3_; clear ho hb0 hgr; obtain ⟨gn, cn, en, -, -, -⟩ := Kd.R_form HS.out (by simp); subst en; replace HS : Aside0 ((Kd.int .i64).R 3 w5 w.heap.size (fun k => k ≠ g4 ∧ some k ≠ vl.ownBlock) (.slice (some ⟨gn, 0, none⟩) 2 cn) [x.f1, x.f2]) := HS; (try clear cg1); have cg1 := fun i => blk_cell BKg1.out i)
        | (go_at_call 35; refine (As.num (Kd.R_reads' HS.out).2.2 (fun ad k e => by cases e; rw [As.add_block]; exact HS.out.1 gn rfl) (by have := HG.out; simp; omega) (by simp) BKg4.out HL.out HB.out GE4.out).mono ?_; rintro r w6 ⟨rfl, vl, hg, hR, hb, hK, hS, hW⟩; have n0_ := Aside0.mk ((hK g1 (blk_lt BKg1.out) NE.out HO1.out).trans BKg1.out); have n1_ := Aside0.mk (show some g1 ≠ vl.ownBlock from fun he => hW.elim (fun e => HO1.out (he.trans e)) (fun ⟨b_, e, hb_⟩ => by rw [e] at he; injection he with he; have := blk_lt BKg1.out; omega)); clear HB BKg1 BKg4 HL HO1 HS hK hS hW; have HB := Aside0.mk hb; have BKg4 := Aside0.mk hg; have HL := Aside0.mk hR; have BKg1 := n0_; have HO1 := n1_; clear hb hg hR n0_ n1_; (try clear cg1); have cg1 := fun i => blk_cell BKg1.out i)
        | (go_at_call 37; (with_reducible refine (As.puts (Kd.C_below G9.out HB.out) K9.out H16.out (by have := H9.out; omega)).mono ?_); rintro r w7 ⟨vp, rfl, ho, hb⟩; obtain ⟨Ap, cp, ep⟩ := Kd.R_slice ho; subst ep; have HP := Aside0.mk (Kd.R_lower ho HB.out.size); clear ho; have n0_ := Aside0.mk (below_step HB.out hb); have n1_ := Aside0.mk (blk_below BKg1.out hb); have n2_ := Aside0.mk (blk_below BKg4.out hb); have n3_ := Aside0.mk (Kd.R_below HL.out hb); clear HB BKg1 BKg4 HL; have HB := n0_; have BKg1 := n1_; have BKg4 := n2_; have HL := n3_; clear n0_ n1_ n2_ n3_; clear hb)
        | (go_at_call 38; (with_reducible refine (As.packs (Kd.C_below G8.out HB.out) K8.out (by have := H9.out; omega)).mono ?_); rintro r w7 ⟨vp, rfl, ho, hb⟩; obtain ⟨Ap, cp, ep⟩ := Kd.R_slice ho; subst ep; have HP := Aside0.mk (Kd.R_lower ho HB.out.size); clear ho; have n0_ := Aside0.mk (below_step HB.out hb); have n1_ := Aside0.mk (blk_below BKg1.out hb); have n2_ := Aside0.mk (blk_below BKg4.out hb); have n3_ := Aside0.mk (Kd.R_below HL.out hb); clear HB BKg1 BKg4 HL; have HB := n0_; have BKg1 := n1_; have BKg4 := n2_; have HL := n3_; clear n0_ n1_ n2_ n3_; clear hb)
        | (go_at_call 36; (with_reducible refine (As.sizes (Kd.R_reads' HP.out).2.2 (Kd.R_reads' HP.out).2.1 (by have := H9.out; first | (rw [pk_len]; unfold szN; omega) | (rw [putW_length]; omega))).mono ?_); rintro r w6 ⟨vq, rfl, ho, hb⟩; have HQ := Aside0.mk (Kd.R_lower ho HB.out.size); clear ho HP; have n0_ := Aside0.mk (below_step HB.out hb); have n1_ := Aside0.mk (blk_below BKg1.out hb); have n2_ := Aside0.mk (blk_below BKg4.out hb); have n3_ := Aside0.mk (Kd.R_below HL.out hb); clear HB BKg1 BKg4 HL; have HB := n0_; have BKg1 := n1_; have BKg4 := n2_; have HL := n3_; clear n0_ n1_ n2_ n3_; clear hb; (try clear cg1); have cg1 := fun i => blk_cell BKg1.out i))
      have HL2 := Aside0.mk (show (Kd.int .u16).R 59 w6 w.heap.size (fun k => k ≠ g4) vl (As.nums x) from by rw [HN.out]; exact HL.out)
      have HH := Aside0.mk (show (∀ n ∈ As.nums x, 0 ≤ n ∧ n ≤ 65535) ∧ (As.nums x).length ≤ 10 by rw [HN.out]; have := HG.out; simp; omega)
      have HRL := Aside0.mk (show (As.rest x).length ≤ 10000 by rw [HR.out]; have := H9.out; first | (simp; done) | (unfold As.sized; rw [List.length_cons, pk_len]; unfold szN; omega) | (unfold As.sized; rw [List.length_cons, putW_length]; omega))
      try (have HQ := Aside0.mk (show (Kd.int .u8).R 5 w6 w.heap.size (fun _ => True) (.slice none 0 0) (As.rest x) by rw [HR.out]; exact Kd.R_nil _ _ _ _ _))
      try (replace HQ : Aside0 ((Kd.int .u8).R 5 w6 w.heap.size (fun _ => True) vq (As.rest x)) := ⟨by rw [HR.out]; exact HQ.out⟩; obtain ⟨Aq, cq, eq_⟩ := Kd.R_slice HQ.out; subst eq_)
      obtain ⟨Al, cl, el⟩ := Kd.R_slice HL2.out
      subst el
      clear HL HN HG HR H9 d1 d2 d3 d4 d5 d6 d15 d16 d22 d23 HO1 NE
      have hb := below_drew1 (Below.refl w6.heap.size w6)
      refine start_ (n := 11) (S := fun w' => Below w6.heap.size w6 w') (ds := []) (bt 11 0) (by kernel_rfl) rfl (by kernel_rfl) hb (fun hHeld => ?_)
      clear hb
      try clear cg1
      refine pure_ (i := 0) (N := some 76) (v := ?_) (a' := ?_) (bt 11 1) rfl rfl (by kernel_rfl) (fun _ _ _ h => h) (Or.inl ⟨by rfl, ?_⟩) ?_ ?_
      rotate_left
      · intro w'
        go_simp
        first | with_reducible rfl | (simp [Instr.field, go_sem]; rfl)
      rotate_left
      · simp only [Act.put, List.setIfInBounds_toArray, List.set_cons_zero, List.set_cons_succ]
        rfl
      refine take_ (i := 1) (N := some 77) (v := ?_) (a' := ?_) (bt 11 3) rfl rfl (by kernel_rfl) (fun _ _ _ h => h) (Or.inl ⟨by rfl, ?_⟩) hHeld ?_ ?_
      rotate_left
      · intro w' hS
        have f_ := fun i => blk_cell (blk_below BKg1.out hS) i
        go_simp
        first | with_reducible rfl | (simp [Instr.field, go_sem]; rfl)
      rotate_left
      · simp only [Act.put, List.setIfInBounds_toArray, List.set_cons_zero, List.set_cons_succ]
        rfl
      refine pure_ (i := 2) (N := some 78) (v := ?_) (a' := ?_) (bt 11 7) rfl rfl (by kernel_rfl) (fun _ _ _ h => h) (Or.inl ⟨by rfl, ?_⟩) ?_ ?_
      rotate_left
      · intro w'
        go_simp
        first | with_reducible rfl | (simp [Instr.field, go_sem]; rfl)
      rotate_left
      · simp only [Act.put, List.setIfInBounds_toArray, List.set_cons_zero, List.set_cons_succ]
        rfl
      refine take_ (i := 4) (N := some 80) (v := ?_) (a' := ?_) (bt 11 23) rfl rfl (by kernel_rfl) (fun _ _ _ h => h) (Or.inl ⟨by rfl, ?_⟩) hHeld ?_ ?_
      rotate_left
      · intro w' hS
        have f_ := fun i => blk_cell (blk_below BKg4.out hS) i
        go_simp
        first | with_reducible rfl | (simp [Instr.field, go_sem]; rfl)
      rotate_left
      · simp only [Act.put, List.setIfInBounds_toArray, List.set_cons_zero, List.set_cons_succ]
        rfl
      refine pure_ (i := 6) (N := some 82) (v := ?_) (a' := ?_) (bt 11 87) rfl rfl (by kernel_rfl) (fun _ _ _ h => h) (Or.inl ⟨by rfl, ?_⟩) ?_ ?_
      rotate_left
      · intro w'
        go_simp
        first | with_reducible rfl | (simp [Instr.field, go_sem]; rfl)
      rotate_left
      · simp only [Act.put, List.setIfInBounds_toArray, List.set_cons_zero, List.set_cons_succ]
        rfl
      refine join_ (σ := Value × Value) 4 (bt 11 127) (fun s_ => [(79, s_.1), (81, s_.2)]) (fun s_ w' => (Kd.int .u8).R 5 w' w.heap.size (fun _ => True) s_.1 [x.f0] ∧ (Kd.int .u8).R 5 w' w.heap.size (fun _ => True) s_.2 (putW (As.nums x)) ∧ Below w6.heap.size w6 w') ?_ ?_
      rotate_left
      · intro hJ
        refine two_ (i := 3) (j := 5) (Ni := some 79) (Nj := some 81) (bt 11 95) (bt 11 119) rfl rfl rfl rfl (by kernel_rfl) (by decide) (by decide) (fun K hK => ?_) (fun K hK => ?_)
        · skip
          refine Kd.R_lit_step (Kd.int .u8) (w0 := w6) w6.heap.size 5 ?hg (N := 79) ?hd (xs := [x.f0]) (inner := [.int .u8 x.f0]) (ok := fun _ => True) (okp := fun _ => False) ?hr ?hp (fun _ hk => hk.elim) trivial hHeld hHeld.size (by simp) ?_
          case hd => rfl
          case hg => rfl
          case hr => first | (go_simp; done) | (go_simp; rfl)
          case hp => exact (Reps.one (show Kd.M (Kd.int .u8) _ _ _ x.f0 [.int .u8 x.f0] from rfl) (Reps.none _ _))
          intro vs ws ho hb1 hgr _
          refine hK.out _ _ hb1 (fun _ => ?_)
          clear hK K
          refine norm_ (a' := ?_) ?_ ?_
          rotate_left
          · show Act.put _ (some 79) _ = _
            simp only [Act.put, List.setIfInBounds_toArray, List.set_cons_zero, List.set_cons_succ]
            rfl
          refine one_ (i := 5) (N := some 81) (bt 11 127) rfl rfl (by kernel_rfl) (by decide) (fun K hK => ?_)
          refine goes_ Try.func37 (by kernel_rfl) rfl #[.slice Al (As.nums x).length cl] (by rfl) rfl rfl (by (try simp only [List.map_toArray, List.map_cons, List.map_nil]); first | done | rfl) ?_
          refine (As.puts (Kd.C_below (Kd.R_reads' HL2.out).2.2 hb1) (Kd.R_reads' HL2.out).2.1 HH.out.1 (by have := HH.out.2; omega)).mono ?_
          rintro e wp ⟨vp, rfl, hp, hb2⟩
          refine ⟨_, rfl, ?_⟩
          refine hK.out _ _ (below_step hb1 hb2) (fun _ => ?_)
          clear hK K
          refine norm_ (a' := ?_) ?_ ?_
          rotate_left
          · show Act.put _ (some 81) _ = _
            simp only [Act.put, List.setIfInBounds_toArray, List.set_cons_zero, List.set_cons_succ]
            rfl
          exact norm_ (by simp only [putAll, Act.put, List.setIfInBounds_toArray, List.set_cons_zero, List.set_cons_succ] <;> rfl) (hJ (vs, vp) _ ⟨Kd.R_lower (Kd.R_below ho hb2) HB.out.size, Kd.R_lower hp (Nat.le_trans HB.out.size hb1.size), below_step hb1 hb2⟩)
        · skip
          refine goes_ Try.func37 (by kernel_rfl) rfl #[.slice Al (As.nums x).length cl] (by rfl) rfl rfl (by (try simp only [List.map_toArray, List.map_cons, List.map_nil]); first | done | rfl) ?_
          refine (As.puts (Kd.C_below (Kd.R_reads' HL2.out).2.2 hHeld) (Kd.R_reads' HL2.out).2.1 HH.out.1 (by have := HH.out.2; omega)).mono ?_
          rintro e wp ⟨vp, rfl, hp, hb2⟩
          refine ⟨_, rfl, ?_⟩
          have hb3 := below_step hHeld hb2
          refine hK.out _ _ hb3 (fun _ => ?_)
          clear hK K
          refine norm_ (a' := ?_) ?_ ?_
          rotate_left
          · show Act.put _ (some 81) _ = _
            simp only [Act.put, List.setIfInBounds_toArray, List.set_cons_zero, List.set_cons_succ]
            rfl
          refine one_ (i := 3) (N := some 79) (bt 11 127) rfl rfl (by kernel_rfl) (by decide) (fun K hK => ?_)
          refine Kd.R_lit_step (Kd.int .u8) (w0 := w6) w6.heap.size 5 ?hg (N := 79) ?hd (xs := [x.f0]) (inner := [.int .u8 x.f0]) (ok := fun _ => True) (okp := fun _ => False) ?hr ?hp (fun _ hk => hk.elim) trivial hb3 hb3.size (by simp) ?_
          case hd => rfl
          case hg => rfl
          case hr => first | (go_simp; done) | (go_simp; rfl)
          case hp => exact (Reps.one (show Kd.M (Kd.int .u8) _ _ _ x.f0 [.int .u8 x.f0] from rfl) (Reps.none _ _))
          intro vs ws ho hb1 hgr _
          refine hK.out _ _ hb1 (fun _ => ?_)
          clear hK K
          refine norm_ (a' := ?_) ?_ ?_
          rotate_left
          · show Act.put _ (some 79) _ = _
            simp only [Act.put, List.setIfInBounds_toArray, List.set_cons_zero, List.set_cons_succ]
            rfl
          exact norm_ (by simp only [putAll, Act.put, List.setIfInBounds_toArray, List.set_cons_zero, List.set_cons_succ] <;> rfl) (hJ (vs, vp) _ ⟨Kd.R_lower ho HB.out.size, Kd.R_grown (Kd.R_lower hp (Nat.le_trans HB.out.size hHeld.size)) hgr (fun _ _ => by simp), hb1⟩)
      clear hHeld
      rintro ⟨vs, vp⟩ wj ⟨hs, hp, hHeld⟩
      dsimp only at hs hp
      obtain ⟨As_, cs_, es_⟩ := Kd.R_slice hs
      subst es_
      obtain ⟨Ap_, cp_, ep_⟩ := Kd.R_slice hp
      subst ep_
      have HS1 := Aside0.mk hs
      have HP1 := Aside0.mk hp
      clear hs hp
      refine norm_ (a' := ?_) ?_ ?_
      rotate_left
      · simp only [putAll, Act.put, List.setIfInBounds_toArray, List.set_cons_zero, List.set_cons_succ]
        rfl
      refine one_ (i := 7) (N := some 83) (bt 11 255) rfl rfl (by kernel_rfl) (by decide) (fun K hK => ?_)
      refine As.rows_ev (by rfl) (N := 83) rfl (cs := ?_) (t := 28) (n := 3) ?hr ?_
      case hr => first | (go_simp; done) | (go_simp; rfl)
      intro gr hgr_ wr hrow hb4
      have HC := As.rows3 hrow (Kd.R_reads' HS1.out).1 (Kd.R_reads' HP1.out).1 (Kd.R_reads' HQ.out).1 (Kd.R_reads' HS1.out).2.1 (Kd.C_below (Kd.R_reads' HS1.out).2.2 hb4) (Kd.R_reads' HP1.out).2.1 (Kd.C_below (Kd.R_reads' HP1.out).2.2 hb4) (Kd.R_reads' HQ.out).2.1 (Kd.C_below (Kd.R_reads' HQ.out).2.2 (below_step hHeld hb4))
      have hH2 := below_step hHeld hb4
      refine hK.out _ _ hH2 (fun hHeld2 => ?_)
      clear hK K
      refine norm_ (a' := ?_) ?_ ?_
      rotate_left
      · show Act.put _ (some 83) _ = _
        simp only [Act.put, List.setIfInBounds_toArray, List.set_cons_zero, List.set_cons_succ]
        rfl
      refine one_ (i := 8) (N := some 84) (bt 11 511) rfl rfl (by kernel_rfl) (by decide) (fun K hK => ?_)
      refine goes_ Try.func39 (by kernel_rfl) rfl #[.slice (some ⟨gr, 0, none⟩) 3 3] (by rfl) rfl rfl (by (try simp only [List.map_toArray, List.map_cons, List.map_nil]); first | done | rfl) ?_
      have hfl : ([[x.f0], putW (As.nums x), As.rest x] : List (List Int)).flatten = As.say x := by simp [As.say]
      have hln : (As.say x).length ≤ 100000 ∧ 0 < (As.say x).length := by unfold As.say; rw [List.length_cons, List.length_append, putW_length]; have := HRL.out; have := HH.out.2; omega
      refine (As.concat (ps := [[x.f0], putW (As.nums x), As.rest x]) HC (Nat.le_refl 3) (by rw [hfl]; exact hln.2) (by rw [hfl]; omega)).mono ?_
      rintro e wz ⟨vz, rfl, hz, hb5⟩
      rw [hfl] at hz
      refine ⟨_, rfl, ?_⟩
      refine hK.out _ _ (below_step hH2 hb5) (fun hHeld3 => ?_)
      clear hK K
      refine norm_ (a' := ?_) ?_ ?_
      rotate_left
      · show Act.put _ (some 84) _ = _
        simp only [Act.put, List.setIfInBounds_toArray, List.set_cons_zero, List.set_cons_succ]
        rfl
      refine pure_ (i := 9) (N := some 2) (v := ?_) (a' := ?_) (bt 11 1023) rfl rfl (by kernel_rfl) (fun _ _ _ h => h) (Or.inl ⟨by rfl, ?_⟩) ?_ ?_
      rotate_left
      · intro w'
        go_simp
        first | with_reducible rfl | (simp [Instr.field, go_sem]; rfl)
      rotate_left
      · simp only [Act.put, List.setIfInBounds_toArray, List.set_cons_zero, List.set_cons_succ]
        rfl
      refine pure_ (i := 10) (N := some 3) (v := ?_) (a' := ?_) (bt 11 2047) rfl rfl (by kernel_rfl) (fun _ _ _ h => h) (Or.inl ⟨by rfl, ?_⟩) ?_ ?_
      rotate_left
      · intro w'
        go_simp
        first | with_reducible rfl | (simp [Instr.field, go_sem]; rfl)
      rotate_left
      · simp only [Act.put, List.setIfInBounds_toArray, List.set_cons_zero, List.set_cons_succ]
        rfl
      refine done_ (by kernel_rfl) ?_
      go_wp2
      go_ret2
      exact ⟨_, rfl, Kd.R_lower hz (Nat.le_trans HB.out.size hH2.size), below_step HB.out hHeld3⟩

end Go.Proofs.Ytedfbemifigoeaa.P
