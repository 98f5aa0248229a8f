import Derived.Test.YtamcpmfimicnjaaX
import Derived.Test.YtamcpmfimicnjaaFo
import Derived.Test.YtamcpmfimicnjaaFs
import Derived.Test.YtamcpmfimicnjaaLFile
namespace Go.Proofs.Ytamcpmfimicnjaa.P
open Go.RowKit Go.Proofs.YtamcpmfimicnjaaW.PrintWords Go.Proofs.YtamcpmfimicnjaaW.PrintLast Go.Proofs.YtamcpmfimicnjaaW.PrintMore
attribute [local go_sem] max2_int min2_int max_two min_two max_three min_three max_four min_four   -- for this text's walks alone
set_option linter.unusedVariables false
set_option linter.unusedSimpArgs false
open Go.Proofs.Ytamcpmfimicnjaa.L

def Fi.SO (w : World) (bb gf : Nat) (cs : Array Value) (x : S31) (w' : World) : Prop := w'.heap[gf]? = some (.cells cs 31 (0, 0)) ∧ Fi.N w' bb cs x ∧ Below w.heap.size w w'
theorem Fi.SO.step {w w1 w2 : World} {bb gf : Nat} {cs : Array Value} {x : S31} (h : Fi.SO w bb gf cs x w1) (hb : Below w1.heap.size w1 w2) : Fi.SO w bb gf cs x w2 := ⟨blk_below h.1 hb, Fi.N_below h.2.1 hb, below_step h.2.2 hb⟩
set_option maxHeartbeats 4000000 in
set_option maxRecDepth 100000 in
theorem Fi.op9 {w : World} {bb : Nat} {cs : Array Value} {x : S31} (h : Fi.N w bb cs x) (hbb : bb ≤ w.heap.size) {k p n v : Int} {A4 A5 : Option Addr} {c4 c5 : Nat} {m : List Bool} {l : List Int} (hk0 : (k == 0) = false) (hk1 : (k == 1) = false) (hk2 : (k == 2) = false) (hk3 : (k == 3) = false) (hf : Fi.Fit x) : Calls Try.prog 24 #[.agg cs, .agg #[.int .i64 k, .int .i64 p, .int .i64 n, .int .i64 v, .slice A4 m.length c4, .slice A5 l.length c5]] w fun e w' => ∃ cs', e = .returned (.tuple #[.agg cs', .bool true]) ∧ Fi.N w' bb cs' x ∧ Below w.heap.size w w' := by
  have hu := Try.underlying31
  have hu37 := Try.underlying37
  have hz := Fi.zero
  have HB := Aside0.mk (Below.refl w.heap.size w)
  have HV := Aside0.mk h.V
  have HN0 := Aside0.mk h
  have HF := Aside0.mk hf
  clear h hbb hf
  go_enter Try.func24, Try.ntmps24
  go_wp2_with (first
    | ((with_reducible refine gate_dst (N := 2) rfl ?_); refine box_event ?hg (N := 2) ?hd (cs := cs) (t := 31) ?hr ?_; (case hd => rfl); (case hg => rfl); (case hr => first | (go_simp; done) | (go_simp; rfl)); intro gf hg w1 hbox hb; have GEgf := Aside0.mk ((by rw [hg]; exact HB.out.size) : w.heap.size ≤ gf); have BKgf := Aside0.mk hbox; clear hbox hg; have n0_ := Aside0.mk (below_step HB.out hb); clear HB; have HB := n0_; clear n0_; skip; clear hb)
    | ((with_reducible refine gate_dst (N := 3) rfl ?_); refine box_event ?hg (N := 3) ?hd (cs := #[.int .i64 k, .int .i64 p, .int .i64 n, .int .i64 v, .slice A4 m.length c4, .slice A5 l.length c5]) (t := 37) ?hr ?_; (case hd => rfl); (case hg => rfl); (case hr => first | (go_simp; done) | (go_simp; rfl)); intro go hg w2 hbox hb; have LTgfgo := Aside0.mk (show gf < go by rw [hg]; exact blk_lt BKgf.out); have GEgo := Aside0.mk ((by rw [hg]; exact HB.out.size) : w.heap.size ≤ go); have BKgo := Aside0.mk hbox; clear hbox hg; have n0_ := Aside0.mk (below_step HB.out hb); have n1_ := Aside0.mk (blk_below BKgf.out hb); clear HB BKgf; have HB := n0_; have BKgf := n1_; clear n0_ n1_; skip; clear hb)
    | ((with_reducible refine gate_dst (N := 4) rfl ?_); refine box_event ?hg (N := 4) ?hd (cs := Fi.Z) (t := 31) ?hr ?_; (case hd => rfl); (case hg => rfl); (case hr => first | (go_simp; done) | (go_simp; rfl)); intro gr hg w3 hbox hb; have LTgfgr := Aside0.mk (show gf < gr by rw [hg]; exact blk_lt BKgf.out); have LTgogr := Aside0.mk (show go < gr by rw [hg]; exact blk_lt BKgo.out); have GEgr := Aside0.mk ((by rw [hg]; exact HB.out.size) : w.heap.size ≤ gr); have BKgr := Aside0.mk hbox; clear hbox hg; have n0_ := Aside0.mk (below_step HB.out hb); have n1_ := Aside0.mk (blk_below BKgf.out hb); have n2_ := Aside0.mk (blk_below BKgo.out hb); clear HB BKgf BKgo; have HB := n0_; have BKgf := n1_; have BKgo := n2_; clear n0_ n1_ n2_; skip; clear hb)
    | ((with_reducible refine gate_dst (N := 6) rfl ?_); refine box_event ?hg (N := 6) ?hd (cs := Fi.Z) (t := 31) ?hr ?_; (case hd => rfl); (case hg => rfl); (case hr => first | (go_simp; done) | (go_simp; rfl)); intro ga hg w4 hbox hb; have LTgfga := Aside0.mk (show gf < ga by rw [hg]; exact blk_lt BKgf.out); have LTgoga := Aside0.mk (show go < ga by rw [hg]; exact blk_lt BKgo.out); have LTgrga := Aside0.mk (show gr < ga by rw [hg]; exact blk_lt BKgr.out); have GEga := Aside0.mk ((by rw [hg]; exact HB.out.size) : w.heap.size ≤ ga); have BKga := Aside0.mk hbox; clear hbox hg; have n0_ := Aside0.mk (below_step HB.out hb); have n1_ := Aside0.mk (blk_below BKgf.out hb); have n2_ := Aside0.mk (blk_below BKgo.out hb); have n3_ := Aside0.mk (blk_below BKgr.out hb); clear HB BKgf BKgo BKgr; have HB := n0_; have BKgf := n1_; have BKgo := n2_; have BKgr := n3_; clear n0_ n1_ n2_ n3_; skip; clear hb)
    | ((with_reducible refine gate_dst (N := 7) rfl ?_); refine box_event ?hg (N := 7) ?hd (cs := Fi.Z) (t := 31) ?hr ?_; (case hd => rfl); (case hg => rfl); (case hr => first | (go_simp; done) | (go_simp; rfl)); intro gb hg w5 hbox hb; have LTgfgb := Aside0.mk (show gf < gb by rw [hg]; exact blk_lt BKgf.out); have LTgogb := Aside0.mk (show go < gb by rw [hg]; exact blk_lt BKgo.out); have LTgrgb := Aside0.mk (show gr < gb by rw [hg]; exact blk_lt BKgr.out); have LTgagb := Aside0.mk (show ga < gb by rw [hg]; exact blk_lt BKga.out); have GEgb := Aside0.mk ((by rw [hg]; exact HB.out.size) : w.heap.size ≤ gb); have BKgb := Aside0.mk hbox; clear hbox hg; have n0_ := Aside0.mk (below_step HB.out hb); have n1_ := Aside0.mk (blk_below BKgf.out hb); have n2_ := Aside0.mk (blk_below BKgo.out hb); have n3_ := Aside0.mk (blk_below BKgr.out hb); have n4_ := Aside0.mk (blk_below BKga.out hb); clear HB BKgf BKgo BKgr BKga; have HB := n0_; have BKgf := n1_; have BKgo := n2_; have BKgr := n3_; have BKga := n4_; clear n0_ n1_ n2_ n3_ n4_; have cgo_0 : w5.cell? ⟨go, 0, none⟩ = some (.int .i64 k) := (blk_cell BKgo.out 0).trans rfl; clear hb))
  have hSO : Fi.SO w bb gf cs x w5 := ⟨BKgf.out, Fi.N_below HN0.out HB.out, HB.out⟩
  refine start_ (n := 5) (S := Fi.SO w bb gf cs x) (ds := []) (bt 5 0) (by kernel_rfl) rfl (by kernel_rfl) (hSO.step (below_drew1 (Below.refl _ _))) (fun hHeld => ?_)
  have b1_ := Aside0.mk (blk_drew BKgr.out)
  have b2_ := Aside0.mk (blk_drew BKga.out)
  have b3_ := Aside0.mk (blk_drew BKgb.out)
  clear hSO HB BKgf BKgo BKgr BKga BKgb
  have BKgr := b1_
  have BKga := b2_
  have BKgb := b3_
  clear b1_ b2_ b3_
  generalize w5.drew = w6 at hHeld BKgr BKga BKgb ⊢
  refine take_ (i := 0) (N := some 12) (v := ?_) (a' := ?_) (bt 5 1) rfl rfl (by kernel_rfl) (fun _ _ _ h => h) (Or.inl ⟨by rfl, ?_⟩) hHeld ?_ ?_
  rotate_left
  · intro w' hS
    refine (?_ : Sem.run Try.prog (execOp _ _) w' = Result.ok (Next.value (Value.agg cs)) w')
    exact Fi.run_load (by rfl) (by rfl) (Fi.load31 hS.1 (Fi.V_size HV.out))
  rotate_left
  · simp only [Act.put, List.setIfInBounds_toArray, List.set_cons_zero, List.set_cons_succ]
    rfl
  refine take_ (i := 2) (N := some 14) (v := ?_) (a' := ?_) (bt 5 5) rfl rfl (by kernel_rfl) (fun _ _ _ h => h) (Or.inl ⟨by rfl, ?_⟩) hHeld ?_ ?_
  rotate_left
  · intro w' hS
    refine (?_ : Sem.run Try.prog (execOp _ _) w' = Result.ok (Next.value (Value.agg cs)) w')
    exact Fi.run_load (by rfl) (by rfl) (Fi.load31 hS.1 (Fi.V_size HV.out))
  rotate_left
  · simp only [Act.put, List.setIfInBounds_toArray, List.set_cons_zero, List.set_cons_succ]
    rfl
  refine one_ (i := 1) (N := some 13) (bt 5 7) rfl rfl (by kernel_rfl) (by decide) (fun K hK => ?_)
  refine goes_ Try.func10 (by kernel_rfl) rfl #[.agg cs] (by rfl) rfl rfl (by (try simp only [List.map_toArray, List.map_cons, List.map_nil]); first | done | rfl) ?_
  refine (Fi.copyE hHeld.2.1.V HF.out).mono ?_
  rintro e w7 ⟨csa, rfl, hC, hb⟩
  have HNa := Aside0.mk hC
  clear hC
  refine ⟨_, rfl, ?_⟩
  have b1_ := Aside0.mk (blk_below BKgr.out hb)
  have b2_ := Aside0.mk (blk_below BKga.out hb)
  have b3_ := Aside0.mk (blk_below BKgb.out hb)
  refine hK.out _ _ (hHeld.step hb) (fun hHeld => ?_)
  clear hK K hb BKgr BKga BKgb
  have BKgr := b1_
  have BKga := b2_
  have BKgb := b3_
  clear b1_ b2_ b3_
  refine norm_ (a' := ?_) ?_ ?_
  rotate_left
  · show Act.put _ (some 13) _ = _
    simp only [Act.put, List.setIfInBounds_toArray, List.set_cons_zero, List.set_cons_succ]
    rfl
  refine one_ (i := 3) (N := none) (bt 5 15) rfl rfl (by kernel_rfl) (by decide) (fun K hK => ?_)
  refine Fi.store_ev (by rfl) rfl 31 _ _ rfl ga csa rfl rfl 31 _ BKga.out (by rw [Fi.V_size HNa.out.V]; exact Fi.size) (by rw [Fi.V_size HNa.out.V]; rfl) (Fi.V_one HNa.out.V) ?_
  intro w8 hgb hgr
  have b0_ := Aside0.mk (blk_grown BKgr.out hgr (fun he => (Nat.ne_of_lt LTgrga.out) (Option.some.inj he)))
  have b1_ := Aside0.mk (blk_grown BKgb.out hgr (fun he => (Nat.ne_of_gt LTgagb.out) (Option.some.inj he)))
  have m0_ := Aside0.mk (Fi.N_row HNa.out BKga.out hgr)
  have hS7 : Fi.SO w bb gf cs x w8 := ⟨blk_grown hHeld.1 hgr (fun he => (Nat.ne_of_lt LTgfga.out) (Option.some.inj he)), Fi.N_row hHeld.2.1 BKga.out hgr, hHeld.2.2.grown hgr hHeld.2.2.size (fun k hk => by cases hk; exact GEga.out)⟩
  clear hHeld BKga hgr BKgr BKgb HNa
  have BKga := Aside0.mk hgb
  have BKgr := b0_
  have BKgb := b1_
  have HNa := m0_
  clear hgb b0_ b1_ m0_
  refine hK.out _ _ hS7 (fun hHeld => ?_)
  clear hK K hS7
  refine one_ (i := 4) (N := none) (bt 5 31) rfl rfl (by kernel_rfl) (by decide) (fun K hK => ?_)
  refine Fi.store_ev (by rfl) rfl 31 _ _ rfl gb cs rfl rfl 31 _ BKgb.out (by rw [Fi.V_size HV.out]; exact Fi.size) (by rw [Fi.V_size HV.out]; rfl) (Fi.V_one HV.out) ?_
  intro w9 hgb hgr
  have b0_ := Aside0.mk (blk_grown BKgr.out hgr (fun he => (Nat.ne_of_lt LTgrgb.out) (Option.some.inj he)))
  have b1_ := Aside0.mk (blk_grown BKga.out hgr (fun he => (Nat.ne_of_lt LTgagb.out) (Option.some.inj he)))
  have m0_ := Aside0.mk (Fi.N_row HNa.out BKgb.out hgr)
  have hS7 : Fi.SO w bb gf cs x w9 := ⟨blk_grown hHeld.1 hgr (fun he => (Nat.ne_of_lt LTgfgb.out) (Option.some.inj he)), Fi.N_row hHeld.2.1 BKgb.out hgr, hHeld.2.2.grown hgr hHeld.2.2.size (fun k hk => by cases hk; exact GEgb.out)⟩
  clear hHeld BKgb hgr BKgr BKga HNa
  have BKgb := Aside0.mk hgb
  have BKgr := b0_
  have BKga := b1_
  have HNa := m0_
  clear hgb b0_ b1_ m0_
  refine hK.out _ _ hS7 (fun hHeld => ?_)
  clear hK K hS7
  refine done_ (by kernel_rfl) ?_
  have HB := Aside0.mk hHeld.2.2
  have HNb := Aside0.mk hHeld.2.1
  have BKgf := Aside0.mk hHeld.1
  clear hHeld
  go_wp2_with (first
    | ((with_reducible refine gate_dst (N := 82) rfl ?_); refine wpList_load_row rfl 31 _ rfl ga rfl 31 _ (0, 0) _ BKga.out hu rfl (by rw [Fi.V_size HNa.out.V]; exact Fi.size) ?_)
    | ((with_reducible refine gate_dst (N := 83) rfl ?_); refine wpList_load_row rfl 31 _ rfl gb rfl 31 _ (0, 0) _ BKgb.out hu rfl (by rw [Fi.V_size HNb.out.V]; exact Fi.size) ?_)
    | (go_at_call 15; (with_reducible refine (Fi.rsame HNa.out.V HNb.out.V HF.out (Fi.eqb_self _)).mono ?_); rintro r we ⟨rfl, hb⟩; have n0_ := Aside0.mk (below_step HB.out hb); have n1_ := Aside0.mk (blk_below BKgf.out hb); have n2_ := Aside0.mk (blk_below BKgr.out hb); have n3_ := Aside0.mk (blk_below BKga.out hb); have n4_ := Aside0.mk (blk_below BKgb.out hb); have n5_ := Aside0.mk (Fi.N_below HNa.out hb); have n6_ := Aside0.mk (Fi.N_below HNb.out hb); clear HB BKgf BKgr BKga BKgb HNa HNb; have HB := n0_; have BKgf := n1_; have BKgr := n2_; have BKga := n3_; have BKgb := n4_; have HNa := n5_; have HNb := n6_; clear n0_ n1_ n2_ n3_ n4_ n5_ n6_; skip; clear hb)
    | ((with_reducible refine gate_dst (N := 95) rfl ?_); refine wpList_load_row rfl 31 _ rfl gb rfl 31 _ (0, 0) _ BKgb.out hu rfl (by rw [Fi.V_size HNb.out.V]; exact Fi.size) ?_)
    | ((with_reducible refine gate_store rfl ?_); refine Fi.store_row rfl 31 _ _ rfl gr cs rfl rfl 31 _ BKgr.out (by rw [Fi.V_size HV.out]; exact Fi.size) (by rw [Fi.V_size HV.out]; rfl) (Fi.V_one HV.out) ?_; intro wf hgb hgr; have n0_ := Aside0.mk (HB.out.grown hgr HB.out.size (fun k hk => by cases hk; exact GEgr.out)); have n1_ := Aside0.mk (Fi.N_row HNb.out BKgr.out hgr); clear HB HNb BKgr; have HB := n0_; have HNb := n1_; have BKgr := Aside0.mk hgb; clear n0_ n1_ hgb hgr))
  refine bodyPost_ret (results_ct rfl _ _ gr 31 cs (0, 0) _ rfl BKgr.out hu rfl (by rw [Fi.V_size HV.out]; exact Fi.size)) rfl ?_
  exact ⟨_, rfl, HNb.out, HB.out⟩

end Go.Proofs.Ytamcpmfimicnjaa.P
