import Derived.Test.YtamcpmfimicnjaaX
import Derived.Test.YtamcpmfimicnjaaAny0
import Derived.Test.YtamcpmfimicnjaaFb
import Derived.Test.YtamcpmfimicnjaaLFile
namespace Go.Proofs.Ytamcpmfimicnjaa.P
open Go.RowKit Go.Proofs.YtamcpmfimicnjaaW.PrintWords Go.Proofs.YtamcpmfimicnjaaW.PrintLast Go.Proofs.YtamcpmfimicnjaaW.PrintMore
attribute [local go_sem] max2_int min2_int max_two min_two max_three min_three max_four min_four   -- for this text's walks alone
set_option linter.unusedVariables false
set_option linter.unusedSimpArgs false
open Go.Proofs.Ytamcpmfimicnjaa.L

set_option maxHeartbeats 4000000 in
set_option maxRecDepth 100000 in
theorem Fi.anyP {w : World} {ca cb : Array Value} {xa xb : S31} (hVa : Fi.V w ca xa) (hVb : Fi.V w cb xb) (hla : xa.f1.length ≤ 140737488351232 ∧ xa.f2.length ≤ 140737488351232 ∧ xa.f3.length ≤ 140737488351232 ∧ xa.f4.length ≤ 140737488351232) (hlb : xb.f1.length ≤ 140737488351232 ∧ xb.f2.length ≤ 140737488351232 ∧ xb.f3.length ≤ 140737488351232 ∧ xb.f4.length ≤ 140737488351232)
    {k p n v : Int} {A4 A5 : Option Addr} {c4 c5 : Nat} {bl : List Bool} {wl : List Int} (hr4 : Kd.bool.C w A4 bl.length bl) (hc4 : bl.length ≤ c4) (hr5 : (Kd.int .u16).C w A5 wl.length wl) (hc5 : wl.length ≤ c5) (hp : I64 p) (hn : I64 n) (hv : I64 v) (hbl : bl.length ≤ 140737488351232) (hwl : wl.length ≤ 140737488351232) (hfit : Fi.Fit xa) (d1 : decide (xa.f1.length + xa.f2.length + xa.f3.length + xa.f4.length ≤ 4000) = true) (d2 : decide (xb.f1.length + xb.f2.length + xb.f3.length + xb.f4.length ≤ 4000) = true) (d3 : decide ((300 : Int) < (bl.length : Int) + (wl.length : Int)) = false) (hd : decide (Fi.P xa) = true) :
    Calls Try.prog 4 #[.agg ca, .agg cb, .agg #[.int .i64 k, .int .i64 p, .int .i64 n, .int .i64 v, .slice A4 bl.length c4, .slice A5 wl.length c5]] w fun e w' => e = .returned (.bool true) ∧ Below w.heap.size w w' := by
  have hu := Try.underlying31
  have hu37 := Try.underlying37
  have hz := Fi.zero
  clear hr4 hc4
  have HB := Aside0.mk (Below.refl w.heap.size w)
  have HVa := Aside0.mk hVa
  have HVb := Aside0.mk hVb
  have HLa := Aside0.mk hla
  have HLb := Aside0.mk hlb
  have HR5 := Aside0.mk hr5
  have HC5 := Aside0.mk hc5
  have HP := Aside0.mk hp
  have HNN := Aside0.mk hn
  have HVV := Aside0.mk hv
  have hw : IntKind.i64.wrap ((bl.length : Int) + (wl.length : Int)) = (bl.length : Int) + (wl.length : Int) := by rw [i64_w]; exact w64 (by omega)
  have HFA := hla
  clear hVa hVb hla hlb hr5 hc5 hp hn hv HFA hbl hwl
  have HFit := Aside0.mk hfit
  obtain ⟨L8, E8, e8⟩ : ∃ L E, Fi.bits xa false p n = (L, E) := ⟨_, _, rfl⟩
  obtain ⟨y9, E10, e10⟩ : ∃ L E, Fi.setWords xa p wl = (L, E) := ⟨_, _, rfl⟩
  obtain ⟨y11, E12, e12⟩ : ∃ L E, Fi.sense xa true p v = (L, E) := ⟨_, _, rfl⟩
  obtain ⟨y0, hy0⟩ : ∃ y, Fi.eqb xa xb = y := ⟨_, rfl⟩
  have HY := Aside0.mk hy0
  clear hy0 hfit
  have HE8 := Aside0.mk e8
  have HE10 := Aside0.mk e10
  have HE12 := Aside0.mk e12
  clear e8 e10 e12
  go_enter Try.func4, Try.ntmps4
  go_wp2_with (first
    | ((with_reducible refine gate_dst (N := 3) rfl ?_); refine box_event ?hg (N := 3) ?hd (cs := ca) (t := 31) ?hr ?_; (case hd => rfl); (case hg => rfl); (case hr => first | (go_simp; done) | (go_simp; rfl)); intro ga hg w1 hbox hb; have GEga := Aside0.mk ((by rw [hg]; exact HB.out.size) : w.heap.size ≤ ga); have BKga := Aside0.mk hbox; clear hbox hg; have n0_ := Aside0.mk (below_step HB.out hb); clear HB; have HB := n0_; clear n0_; skip; clear hb)
    | ((with_reducible refine gate_dst (N := 4) rfl ?_); refine box_event ?hg (N := 4) ?hd (cs := cb) (t := 31) ?hr ?_; (case hd => rfl); (case hg => rfl); (case hr => first | (go_simp; done) | (go_simp; rfl)); intro gb hg w2 hbox hb; have GEgb := Aside0.mk ((by rw [hg]; exact HB.out.size) : w.heap.size ≤ gb); have BKgb := Aside0.mk hbox; clear hbox hg; have n0_ := Aside0.mk (below_step HB.out hb); have n1_ := Aside0.mk (blk_below BKga.out hb); clear HB BKga; have HB := n0_; have BKga := n1_; clear n0_ n1_; skip; clear hb)
    | ((with_reducible refine gate_dst (N := 5) rfl ?_); refine box_event ?hg (N := 5) ?hd (cs := #[.int .i64 k, .int .i64 p, .int .i64 n, .int .i64 v, .slice A4 bl.length c4, .slice A5 wl.length c5]) (t := 37) ?hr ?_; (case hd => rfl); (case hg => rfl); (case hr => first | (go_simp; done) | (go_simp; rfl)); intro go hg w3 hbox hb; have GEgo := Aside0.mk ((by rw [hg]; exact HB.out.size) : w.heap.size ≤ go); have BKgo := Aside0.mk hbox; clear hbox hg; have n0_ := Aside0.mk (below_step HB.out hb); have n1_ := Aside0.mk (blk_below BKga.out hb); have n2_ := Aside0.mk (blk_below BKgb.out hb); clear HB BKga BKgb; have HB := n0_; have BKga := n1_; have BKgb := n2_; clear n0_ n1_ n2_; have cgo_0 : w3.cell? ⟨go, 0, none⟩ = some (.int .i64 k) := (blk_cell BKgo.out 0).trans rfl; have cgo_1 : w3.cell? ⟨go, 1, none⟩ = some (.int .i64 p) := (blk_cell BKgo.out 1).trans rfl; have cgo_2 : w3.cell? ⟨go, 2, none⟩ = some (.int .i64 n) := (blk_cell BKgo.out 2).trans rfl; have cgo_3 : w3.cell? ⟨go, 3, none⟩ = some (.int .i64 v) := (blk_cell BKgo.out 3).trans rfl; have cgo_4 : w3.cell? ⟨go, 4, none⟩ = some (.slice A4 bl.length c4) := (blk_cell BKgo.out 4).trans rfl; have cgo_5 : w3.cell? ⟨go, 5, none⟩ = some (.slice A5 wl.length c5) := (blk_cell BKgo.out 5).trans rfl; clear hb)
    | ((with_reducible refine gate_dst (N := 18) rfl ?_); refine gate_guard (by rfl) ?_; dsimp only; refine wpList_load_row rfl 31 _ rfl gb rfl 31 _ (0, 0) _ BKgb.out hu rfl (by rw [Fi.V_size HVb.out]; exact Fi.size) ?_)
    | (refine wpList_load_row rfl 31 _ rfl ga rfl 31 _ (0, 0) _ BKga.out hu rfl (by rw [Fi.V_size HVa.out]; exact Fi.size) ?_)
    | (go_at_call 9; (with_reducible refine (Fi.few (Fi.V_below HVa.out HB.out) HLa.out d1).mono ?_); rintro r w4 ⟨rfl, hb⟩; have n0_ := Aside0.mk (below_step HB.out hb); have n1_ := Aside0.mk (blk_below BKga.out hb); have n2_ := Aside0.mk (blk_below BKgb.out hb); have n3_ := Aside0.mk (blk_below BKgo.out hb); clear HB BKga BKgb BKgo; have HB := n0_; have BKga := n1_; have BKgb := n2_; have BKgo := n3_; clear n0_ n1_ n2_ n3_; have cgo_0 : w4.cell? ⟨go, 0, none⟩ = some (.int .i64 k) := (blk_cell BKgo.out 0).trans rfl; have cgo_1 : w4.cell? ⟨go, 1, none⟩ = some (.int .i64 p) := (blk_cell BKgo.out 1).trans rfl; have cgo_2 : w4.cell? ⟨go, 2, none⟩ = some (.int .i64 n) := (blk_cell BKgo.out 2).trans rfl; have cgo_3 : w4.cell? ⟨go, 3, none⟩ = some (.int .i64 v) := (blk_cell BKgo.out 3).trans rfl; have cgo_4 : w4.cell? ⟨go, 4, none⟩ = some (.slice A4 bl.length c4) := (blk_cell BKgo.out 4).trans rfl; have cgo_5 : w4.cell? ⟨go, 5, none⟩ = some (.slice A5 wl.length c5) := (blk_cell BKgo.out 5).trans rfl; clear hb)
    | (go_at_call 9; (with_reducible refine (Fi.few (Fi.V_below HVb.out HB.out) HLb.out d2).mono ?_); rintro r w5 ⟨rfl, hb⟩; have n0_ := Aside0.mk (below_step HB.out hb); have n1_ := Aside0.mk (blk_below BKga.out hb); have n2_ := Aside0.mk (blk_below BKgb.out hb); have n3_ := Aside0.mk (blk_below BKgo.out hb); clear HB BKga BKgb BKgo; have HB := n0_; have BKga := n1_; have BKgb := n2_; have BKgo := n3_; clear n0_ n1_ n2_ n3_; have cgo_0 : w5.cell? ⟨go, 0, none⟩ = some (.int .i64 k) := (blk_cell BKgo.out 0).trans rfl; have cgo_1 : w5.cell? ⟨go, 1, none⟩ = some (.int .i64 p) := (blk_cell BKgo.out 1).trans rfl; have cgo_2 : w5.cell? ⟨go, 2, none⟩ = some (.int .i64 n) := (blk_cell BKgo.out 2).trans rfl; have cgo_3 : w5.cell? ⟨go, 3, none⟩ = some (.int .i64 v) := (blk_cell BKgo.out 3).trans rfl; have cgo_4 : w5.cell? ⟨go, 4, none⟩ = some (.slice A4 bl.length c4) := (blk_cell BKgo.out 4).trans rfl; have cgo_5 : w5.cell? ⟨go, 5, none⟩ = some (.slice A5 wl.length c5) := (blk_cell BKgo.out 5).trans rfl; clear hb)
    | (go_at_call 12; (with_reducible refine (Fi.cbitsE (Fi.V_below HVa.out HB.out) false HP.out HNN.out HE8.out).mono ?_); rintro r w6 ⟨v8, rfl, ho, hb⟩; have n0_ := Aside0.mk (below_step HB.out hb); have n1_ := Aside0.mk (blk_below BKga.out hb); have n2_ := Aside0.mk (blk_below BKgb.out hb); have n3_ := Aside0.mk (blk_below BKgo.out hb); clear HB BKga BKgb BKgo; have HB := n0_; have BKga := n1_; have BKgb := n2_; have BKgo := n3_; clear n0_ n1_ n2_ n3_; clear ho; have cgo_0 : w6.cell? ⟨go, 0, none⟩ = some (.int .i64 k) := (blk_cell BKgo.out 0).trans rfl; have cgo_1 : w6.cell? ⟨go, 1, none⟩ = some (.int .i64 p) := (blk_cell BKgo.out 1).trans rfl; have cgo_2 : w6.cell? ⟨go, 2, none⟩ = some (.int .i64 n) := (blk_cell BKgo.out 2).trans rfl; have cgo_3 : w6.cell? ⟨go, 3, none⟩ = some (.int .i64 v) := (blk_cell BKgo.out 3).trans rfl; have cgo_4 : w6.cell? ⟨go, 4, none⟩ = some (.slice A4 bl.length c4) := (blk_cell BKgo.out 4).trans rfl; have cgo_5 : w6.cell? ⟨go, 5, none⟩ = some (.slice A5 wl.length c5) := (blk_cell BKgo.out 5).trans rfl; clear hb)
    | (go_at_call 16; (with_reducible refine (Fi.csetWordsE (Fi.V_below HVa.out HB.out) (Kd.C_below HR5.out HB.out) HC5.out HP.out HE10.out).mono ?_); rintro r w7 ⟨cs9, rfl, hN, hb⟩; have HN9 := Aside0.mk hN; clear hN; have n0_ := Aside0.mk (below_step HB.out hb); have n1_ := Aside0.mk (blk_below BKga.out hb); have n2_ := Aside0.mk (blk_below BKgb.out hb); have n3_ := Aside0.mk (blk_below BKgo.out hb); clear HB BKga BKgb BKgo; have HB := n0_; have BKga := n1_; have BKgb := n2_; have BKgo := n3_; clear n0_ n1_ n2_ n3_; clear hb)
    | ((with_reducible refine gate_dst (N := 9) rfl ?_); refine box_event ?hg (N := 9) ?hd (cs := Fi.Z) (t := 31) ?hr ?_; (case hd => rfl); (case hg => rfl); (case hr => first | (go_simp; done) | (go_simp; rfl)); intro g9 hg w8 hbox hb; have GX := Aside0.mk (Nat.le_of_eq hg.symm); have HX := Aside0.mk hb; have BKg9 := Aside0.mk hbox; clear hg hbox hb)
    | ((with_reducible refine gate_store rfl ?_); refine Fi.store_row rfl 31 _ _ rfl g9 cs9 rfl rfl 31 _ BKg9.out (by rw [Fi.V_size HN9.out.V]; exact Fi.size) (by rw [Fi.V_size HN9.out.V]; rfl) (Fi.V_one HN9.out.V) ?_; intro w10 hgb hgr; have hb := HX.out.grown hgr HX.out.size (fun k hk => by cases hk; exact GX.out); have n0_ := Aside0.mk (below_step HB.out hb); have n1_ := Aside0.mk (blk_below BKga.out hb); have n2_ := Aside0.mk (blk_below BKgb.out hb); have n3_ := Aside0.mk (blk_below BKgo.out hb); have n4_ := Aside0.mk (Fi.N_below HN9.out hb); clear HB BKga BKgb BKgo HN9; have HB := n0_; have BKga := n1_; have BKgb := n2_; have BKgo := n3_; have HN9 := n4_; clear n0_ n1_ n2_ n3_ n4_; clear BKg9 GX HX hb hgr; have BKg9 := Aside0.mk hgb; have cgo_0 : w10.cell? ⟨go, 0, none⟩ = some (.int .i64 k) := (blk_cell BKgo.out 0).trans rfl; have cgo_1 : w10.cell? ⟨go, 1, none⟩ = some (.int .i64 p) := (blk_cell BKgo.out 1).trans rfl; have cgo_2 : w10.cell? ⟨go, 2, none⟩ = some (.int .i64 n) := (blk_cell BKgo.out 2).trans rfl; have cgo_3 : w10.cell? ⟨go, 3, none⟩ = some (.int .i64 v) := (blk_cell BKgo.out 3).trans rfl; have cgo_4 : w10.cell? ⟨go, 4, none⟩ = some (.slice A4 bl.length c4) := (blk_cell BKgo.out 4).trans rfl; have cgo_5 : w10.cell? ⟨go, 5, none⟩ = some (.slice A5 wl.length c5) := (blk_cell BKgo.out 5).trans rfl; clear hgb)
    | (go_at_call 20; (with_reducible refine (Fi.csenseE (Fi.V_below HVa.out HB.out) true HP.out HVV.out HE12.out).mono ?_); rintro r w11 ⟨cs11, rfl, hN, hb⟩; have HN11 := Aside0.mk hN; clear hN; have n0_ := Aside0.mk (below_step HB.out hb); have n1_ := Aside0.mk (blk_below BKga.out hb); have n2_ := Aside0.mk (blk_below BKgb.out hb); have n3_ := Aside0.mk (blk_below BKgo.out hb); clear HB BKga BKgb BKgo; have HB := n0_; have BKga := n1_; have BKgb := n2_; have BKgo := n3_; clear n0_ n1_ n2_ n3_; clear hb)
    | ((with_reducible refine gate_dst (N := 11) rfl ?_); refine box_event ?hg (N := 11) ?hd (cs := Fi.Z) (t := 31) ?hr ?_; (case hd => rfl); (case hg => rfl); (case hr => first | (go_simp; done) | (go_simp; rfl)); intro g11 hg w12 hbox hb; have GX := Aside0.mk (Nat.le_of_eq hg.symm); have HX := Aside0.mk hb; have BKg11 := Aside0.mk hbox; clear hg hbox hb)
    | ((with_reducible refine gate_store rfl ?_); refine Fi.store_row rfl 31 _ _ rfl g11 cs11 rfl rfl 31 _ BKg11.out (by rw [Fi.V_size HN11.out.V]; exact Fi.size) (by rw [Fi.V_size HN11.out.V]; rfl) (Fi.V_one HN11.out.V) ?_; intro w13 hgb hgr; have hb := HX.out.grown hgr HX.out.size (fun k hk => by cases hk; exact GX.out); have n0_ := Aside0.mk (below_step HB.out hb); have n1_ := Aside0.mk (blk_below BKga.out hb); have n2_ := Aside0.mk (blk_below BKgb.out hb); have n3_ := Aside0.mk (blk_below BKgo.out hb); have n4_ := Aside0.mk (Fi.N_below HN11.out hb); clear HB BKga BKgb BKgo HN11; have HB := n0_; have BKga := n1_; have BKgb := n2_; have BKgo := n3_; have HN11 := n4_; clear n0_ n1_ n2_ n3_ n4_; clear BKg11 GX HX hb hgr; have BKg11 := Aside0.mk hgb; have cgo_0 : w13.cell? ⟨go, 0, none⟩ = some (.int .i64 k) := (blk_cell BKgo.out 0).trans rfl; have cgo_1 : w13.cell? ⟨go, 1, none⟩ = some (.int .i64 p) := (blk_cell BKgo.out 1).trans rfl; have cgo_2 : w13.cell? ⟨go, 2, none⟩ = some (.int .i64 n) := (blk_cell BKgo.out 2).trans rfl; have cgo_3 : w13.cell? ⟨go, 3, none⟩ = some (.int .i64 v) := (blk_cell BKgo.out 3).trans rfl; have cgo_4 : w13.cell? ⟨go, 4, none⟩ = some (.slice A4 bl.length c4) := (blk_cell BKgo.out 4).trans rfl; have cgo_5 : w13.cell? ⟨go, 5, none⟩ = some (.slice A5 wl.length c5) := (blk_cell BKgo.out 5).trans rfl; clear hgb)
    | (go_at_call 21; (with_reducible refine (Fi.rright14 (Fi.V_below HVa.out HB.out) hd).mono ?_); rintro r w14 ⟨rfl, hb⟩; have n0_ := Aside0.mk (below_step HB.out hb); have n1_ := Aside0.mk (blk_below BKga.out hb); have n2_ := Aside0.mk (blk_below BKgb.out hb); have n3_ := Aside0.mk (blk_below BKgo.out hb); clear HB BKga BKgb BKgo; have HB := n0_; have BKga := n1_; have BKgb := n2_; have BKgo := n3_; clear n0_ n1_ n2_ n3_; skip; clear hb)
    | (go_at_call 19; (with_reducible refine (Fi.right (Fi.V_below HVa.out HB.out) hd).mono ?_); rintro r w15 ⟨rfl, hb⟩; have n0_ := Aside0.mk (below_step HB.out hb); have n1_ := Aside0.mk (blk_below BKga.out hb); have n2_ := Aside0.mk (blk_below BKgb.out hb); have n3_ := Aside0.mk (blk_below BKgo.out hb); clear HB BKga BKgb BKgo; have HB := n0_; have BKga := n1_; have BKgb := n2_; have BKgo := n3_; clear n0_ n1_ n2_ n3_; skip; clear hb))
  have hSA : Fi.SA w ga gb ca cb xa xb w15 := ⟨BKga.out, BKgb.out, (Fi.V_below HVa.out HB.out), (Fi.V_below HVb.out HB.out), HB.out⟩
  clear BKga BKgb BKgo HB
  refine start_ (n := 17) (S := Fi.SA w ga gb ca cb xa xb) (ds := []) #[false, false, false, false, false, false, false, false, false, false, false, false, false, false, false, false, false] (by kernel_rfl) rfl rfl (hSA.step (below_drew1 (Below.refl _ _))) (fun hHeld => ?_)
  clear hSA
  generalize w15.drew = w5 at hHeld ⊢
  refine take_ (i := 0) (N := some 82) (v := ?_) (a' := ?_) #[true, false, false, false, false, false, false, false, false, false, false, false, false, false, false, false, false] rfl rfl (by kernel_rfl) (fun _ _ _ h => h) (Or.inl ⟨by rfl, ?_⟩) hHeld ?_ ?_
  rotate_left
  · intro w' hS
    refine (?_ : Sem.run Try.prog (execOp _ _) w' = Result.ok (Next.value (Value.agg ca)) w')
    exact Fi.run_load (by rfl) (by rfl) (Fi.load31 hS.1 (Fi.V_size hS.2.2.1))
  rotate_left
  · simp only [Act.put, List.setIfInBounds_toArray, List.set_cons_zero, List.set_cons_succ]
    rfl
  refine take_ (i := 1) (N := some 83) (v := ?_) (a' := ?_) #[true, true, false, false, false, false, false, false, false, false, false, false, false, false, false, false, false] rfl rfl (by kernel_rfl) (fun _ _ _ h => h) (Or.inl ⟨by rfl, ?_⟩) hHeld ?_ ?_
  rotate_left
  · intro w' hS
    refine (?_ : Sem.run Try.prog (execOp _ _) w' = Result.ok (Next.value (Value.agg cb)) w')
    exact Fi.run_load (by rfl) (by rfl) (Fi.load31 hS.2.1 (Fi.V_size hS.2.2.2.1))
  rotate_left
  · simp only [Act.put, List.setIfInBounds_toArray, List.set_cons_zero, List.set_cons_succ]
    rfl
  refine take_ (i := 3) (N := some 85) (v := ?_) (a' := ?_) #[true, true, false, true, false, false, false, false, false, false, false, false, false, false, false, false, false] rfl rfl (by kernel_rfl) (fun _ _ _ h => h) (Or.inl ⟨by rfl, ?_⟩) hHeld ?_ ?_
  rotate_left
  · intro w' hS
    refine (?_ : Sem.run Try.prog (execOp _ _) w' = Result.ok (Next.value (Value.agg ca)) w')
    exact Fi.run_load (by rfl) (by rfl) (Fi.load31 hS.1 (Fi.V_size hS.2.2.1))
  rotate_left
  · simp only [Act.put, List.setIfInBounds_toArray, List.set_cons_zero, List.set_cons_succ]
    rfl
  refine take_ (i := 4) (N := some 86) (v := ?_) (a' := ?_) #[true, true, false, true, true, false, false, false, false, false, false, false, false, false, false, false, false] rfl rfl (by kernel_rfl) (fun _ _ _ h => h) (Or.inl ⟨by rfl, ?_⟩) hHeld ?_ ?_
  rotate_left
  · intro w' hS
    refine (?_ : Sem.run Try.prog (execOp _ _) w' = Result.ok (Next.value (Value.agg cb)) w')
    exact Fi.run_load (by rfl) (by rfl) (Fi.load31 hS.2.1 (Fi.V_size hS.2.2.2.1))
  rotate_left
  · simp only [Act.put, List.setIfInBounds_toArray, List.set_cons_zero, List.set_cons_succ]
    rfl
  refine one_ (i := 2) (N := some 84) #[true, true, true, true, true, false, false, false, false, false, false, false, false, false, false, false, false] rfl rfl (by kernel_rfl) (by decide) (fun K hK => ?_)
  refine goes_ Try.func17 (by kernel_rfl) rfl #[.agg ca, .agg cb] (by rfl) rfl rfl (by (try simp only [List.map_toArray, List.map_cons, List.map_nil]); first | done | rfl) ?_
  refine (Fi.same hHeld.2.2.1 hHeld.2.2.2.1 HFit.out HY.out).mono ?_
  rintro e w6 ⟨rfl, hb⟩
  refine ⟨_, rfl, ?_⟩
  refine hK.out _ _ (hHeld.step hb) (fun hHeld => ?_)
  clear hK K hb
  refine norm_ (a' := ?_) ?_ ?_
  rotate_left
  · show Act.put _ (some 84) _ = _
    simp only [Act.put, List.setIfInBounds_toArray, List.set_cons_zero, List.set_cons_succ]
    rfl
  refine one_ (i := 5) (N := some 87) #[true, true, true, true, true, true, false, false, false, false, false, false, false, false, false, false, false] rfl rfl (by kernel_rfl) (by decide) (fun K hK => ?_)
  refine goes_ Try.func15 (by kernel_rfl) rfl #[.agg ca, .agg cb] (by rfl) rfl rfl (by (try simp only [List.map_toArray, List.map_cons, List.map_nil]); first | done | rfl) ?_
  refine (Fi.rsame hHeld.2.2.1 hHeld.2.2.2.1 HFit.out HY.out).mono ?_
  rintro e w6 ⟨rfl, hb⟩
  refine ⟨_, rfl, ?_⟩
  refine hK.out _ _ (hHeld.step hb) (fun hHeld => ?_)
  clear hK K hb
  refine norm_ (a' := ?_) ?_ ?_
  rotate_left
  · show Act.put _ (some 87) _ = _
    simp only [Act.put, List.setIfInBounds_toArray, List.set_cons_zero, List.set_cons_succ]
    rfl
  refine pure_ (i := 6) (N := some 88) (v := ?_) (a' := ?_) #[true, true, true, true, true, true, true, false, false, false, false, false, false, false, false, false, false] rfl rfl (by kernel_rfl) (fun _ _ _ h => h) (Or.inl ⟨by rfl, ?_⟩) ?_ ?_
  rotate_left
  · intro w'
    go_simp
    first | with_reducible rfl | (simp [Instr.field, go_sem]; rfl)
  rotate_left
  · simp only [Act.put, List.setIfInBounds_toArray, List.set_cons_zero, List.set_cons_succ]
    rfl
  refine pure_ (i := 7) (N := some 89) (v := ?_) (a' := ?_) #[true, true, true, true, true, true, true, true, false, false, false, false, false, false, false, false, false] rfl rfl (by kernel_rfl) (fun _ _ _ h => h) (Or.inl ⟨by rfl, ?_⟩) ?_ ?_
  rotate_left
  · intro w'
    go_simp
    first | with_reducible rfl | (simp [Instr.field, go_sem]; rfl)
  rotate_left
  · simp only [Act.put, List.setIfInBounds_toArray, List.set_cons_zero, List.set_cons_succ]
    rfl
  refine take_ (i := 8) (N := some 90) (v := ?_) (a' := ?_) #[true, true, true, true, true, true, true, true, true, false, false, false, false, false, false, false, false] rfl rfl (by kernel_rfl) (fun _ _ _ h => h) (Or.inl ⟨by rfl, ?_⟩) hHeld ?_ ?_
  rotate_left
  · intro w' hS
    refine (?_ : Sem.run Try.prog (execOp _ _) w' = Result.ok (Next.value (Value.agg ca)) w')
    exact Fi.run_load (by rfl) (by rfl) (Fi.load31 hS.1 (Fi.V_size hS.2.2.1))
  rotate_left
  · simp only [Act.put, List.setIfInBounds_toArray, List.set_cons_zero, List.set_cons_succ]
    rfl
  refine take_ (i := 10) (N := some 92) (v := ?_) (a' := ?_) #[true, true, true, true, true, true, true, true, true, false, true, false, false, false, false, false, false] rfl rfl (by kernel_rfl) (fun _ _ _ h => h) (Or.inl ⟨by rfl, ?_⟩) hHeld ?_ ?_
  rotate_left
  · intro w' hS
    refine (?_ : Sem.run Try.prog (execOp _ _) w' = Result.ok (Next.value (Value.agg ca)) w')
    exact Fi.run_load (by rfl) (by rfl) (Fi.load31 hS.1 (Fi.V_size hS.2.2.1))
  rotate_left
  · simp only [Act.put, List.setIfInBounds_toArray, List.set_cons_zero, List.set_cons_succ]
    rfl
  refine one_ (i := 9) (N := some 91) #[true, true, true, true, true, true, true, true, true, true, true, false, false, false, false, false, false] rfl rfl (by kernel_rfl) (by decide) (fun K hK => ?_)
  refine goes_ Try.func10 (by kernel_rfl) rfl #[.agg ca] (by rfl) rfl rfl (by (try simp only [List.map_toArray, List.map_cons, List.map_nil]); first | done | rfl) ?_
  refine (Fi.copyE hHeld.2.2.1 HFit.out).mono ?_
  rintro e w6 ⟨csC, rfl, hC, hb⟩
  have HC := Aside0.mk hC.V
  clear hC
  refine ⟨_, rfl, ?_⟩
  refine hK.out _ _ (hHeld.step hb) (fun hHeld => ?_)
  clear hK K hb
  refine norm_ (a' := ?_) ?_ ?_
  rotate_left
  · show Act.put _ (some 91) _ = _
    simp only [Act.put, List.setIfInBounds_toArray, List.set_cons_zero, List.set_cons_succ]
    rfl
  refine one_ (i := 11) (N := some 93) #[true, true, true, true, true, true, true, true, true, true, true, true, false, false, false, false, false] rfl rfl (by kernel_rfl) (by decide) (fun K hK => ?_)
  refine goes_ Try.func15 (by kernel_rfl) rfl #[.agg csC, .agg ca] (by rfl) rfl rfl (by (try simp only [List.map_toArray, List.map_cons, List.map_nil]); first | done | rfl) ?_
  refine (Fi.rsame HC.out hHeld.2.2.1 HFit.out (Fi.eqb_self _)).mono ?_
  rintro e w6 ⟨rfl, hb⟩
  refine ⟨_, rfl, ?_⟩
  refine hK.out _ _ (hHeld.step hb) (fun hHeld => ?_)
  clear hK K hb
  clear HC
  refine norm_ (a' := ?_) ?_ ?_
  rotate_left
  · show Act.put _ (some 93) _ = _
    simp only [Act.put, List.setIfInBounds_toArray, List.set_cons_zero, List.set_cons_succ]
    rfl
  refine pure_ (i := 12) (N := some 94) (v := ?_) (a' := ?_) #[true, true, true, true, true, true, true, true, true, true, true, true, true, false, false, false, false] rfl rfl (by kernel_rfl) (fun _ _ _ h => h) (Or.inl ⟨by rfl, ?_⟩) ?_ ?_
  rotate_left
  · intro w'
    go_simp
    first | with_reducible rfl | (simp [Instr.field, go_sem]; rfl)
  rotate_left
  · simp only [Act.put, List.setIfInBounds_toArray, List.set_cons_zero, List.set_cons_succ]
    rfl
  refine pure_ (i := 13) (N := some 95) (v := ?_) (a' := ?_) #[true, true, true, true, true, true, true, true, true, true, true, true, true, true, false, false, false] rfl rfl (by kernel_rfl) (fun _ _ _ h => h) (Or.inl ⟨by rfl, ?_⟩) ?_ ?_
  rotate_left
  · intro w'
    go_simp
    first | with_reducible rfl | (simp [Instr.field, go_sem]; rfl)
  rotate_left
  · simp only [Act.put, List.setIfInBounds_toArray, List.set_cons_zero, List.set_cons_succ]
    rfl
  refine one_ (i := 14) (N := some 96) #[true, true, true, true, true, true, true, true, true, true, true, true, true, true, true, false, false] rfl rfl (by kernel_rfl) (by decide) (fun K hK => ?_)
  refine goes_ Try.func7 (by kernel_rfl) rfl #[] (by rfl) rfl rfl (by (try simp only [List.map_toArray, List.map_cons, List.map_nil]); first | done | rfl) ?_
  refine Fi.sure.mono ?_
  rintro e w6 ⟨rfl, hb⟩
  refine ⟨_, rfl, ?_⟩
  refine hK.out _ _ (hHeld.step hb) (fun hHeld => ?_)
  clear hK K hb
  refine norm_ (a' := ?_) ?_ ?_
  rotate_left
  · show Act.put _ (some 96) _ = _
    simp only [Act.put, List.setIfInBounds_toArray, List.set_cons_zero, List.set_cons_succ]
    rfl
  refine pure_ (i := 15) (N := some 97) (v := ?_) (a' := ?_) #[true, true, true, true, true, true, true, true, true, true, true, true, true, true, true, true, false] rfl rfl (by kernel_rfl) (fun _ _ _ h => h) (Or.inl ⟨by rfl, ?_⟩) ?_ ?_
  rotate_left
  · intro w'
    go_simp
    first | with_reducible rfl | (simp [Instr.field, go_sem]; rfl)
  rotate_left
  · simp only [Act.put, List.setIfInBounds_toArray, List.set_cons_zero, List.set_cons_succ]
    rfl
  refine pure_ (i := 16) (N := some 6) (v := ?_) (a' := ?_) #[true, true, true, true, true, true, true, true, true, true, true, true, true, true, true, true, true] rfl rfl (by kernel_rfl) (fun _ _ _ h => h) (Or.inl ⟨by rfl, ?_⟩) ?_ ?_
  rotate_left
  · intro w'
    go_simp
    first | with_reducible rfl | (simp [Instr.field, go_sem]; rfl)
  rotate_left
  · simp only [Act.put, List.setIfInBounds_toArray, List.set_cons_zero, List.set_cons_succ]
    rfl
  refine done_ (by kernel_rfl) ?_
  go_wp2
  go_ret
  exact ⟨rfl, hHeld.2.2.2.2⟩

end Go.Proofs.Ytamcpmfimicnjaa.P
