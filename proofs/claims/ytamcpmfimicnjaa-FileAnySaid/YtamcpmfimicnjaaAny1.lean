import Derived.Test.YtamcpmfimicnjaaX
import Derived.Test.YtamcpmfimicnjaaAny0
import Derived.Test.YtamcpmfimicnjaaLFile
namespace Go.Proofs.Ytamcpmfimicnjaa.P
open Go.RowKit Go.Proofs.YtamcpmfimicnjaaW.PrintWords Go.Proofs.YtamcpmfimicnjaaW.PrintLast Go.Proofs.YtamcpmfimicnjaaW.PrintMore
attribute [local go_sem] max2_int min2_int max_two min_two max_three min_three max_four min_four   -- for this text's walks alone
set_option linter.unusedVariables false
set_option linter.unusedSimpArgs false
open Go.Proofs.Ytamcpmfimicnjaa.L

set_option maxHeartbeats 4000000 in
set_option maxRecDepth 100000 in
theorem Fi.any1 {w : World} {ca cb : Array Value} {xa xb : S31} (hVa : Fi.V w ca xa) (hVb : Fi.V w cb xb) (hla : xa.f1.length ≤ 140737488351232 ∧ xa.f2.length ≤ 140737488351232 ∧ xa.f3.length ≤ 140737488351232 ∧ xa.f4.length ≤ 140737488351232) (hlb : xb.f1.length ≤ 140737488351232 ∧ xb.f2.length ≤ 140737488351232 ∧ xb.f3.length ≤ 140737488351232 ∧ xb.f4.length ≤ 140737488351232)
    {k p n v : Int} {A4 A5 : Option Addr} {c4 c5 : Nat} {bl : List Bool} {wl : List Int} (hr4 : Kd.bool.C w A4 bl.length bl) (hc4 : bl.length ≤ c4) (hr5 : (Kd.int .u16).C w A5 wl.length wl) (hc5 : wl.length ≤ c5) (hp : I64 p) (hn : I64 n) (hv : I64 v) (hbl : bl.length ≤ 140737488351232) (hwl : wl.length ≤ 140737488351232) (d1 : decide (xa.f1.length + xa.f2.length + xa.f3.length + xa.f4.length ≤ 4000) = false) :
    Calls Try.prog 4 #[.agg ca, .agg cb, .agg #[.int .i64 k, .int .i64 p, .int .i64 n, .int .i64 v, .slice A4 bl.length c4, .slice A5 wl.length c5]] w fun e w' => e = .returned (.bool true) ∧ Below w.heap.size w w' := by
  have hu := Try.underlying31
  have hu37 := Try.underlying37
  have hz := Fi.zero
  clear hr4 hc4
  have HB := Aside0.mk (Below.refl w.heap.size w)
  have HVa := Aside0.mk hVa
  have HVb := Aside0.mk hVb
  have HLa := Aside0.mk hla
  have HLb := Aside0.mk hlb
  have HR5 := Aside0.mk hr5
  have HC5 := Aside0.mk hc5
  have HP := Aside0.mk hp
  have HNN := Aside0.mk hn
  have HVV := Aside0.mk hv
  have hw : IntKind.i64.wrap ((bl.length : Int) + (wl.length : Int)) = (bl.length : Int) + (wl.length : Int) := by rw [i64_w]; exact w64 (by omega)
  have HFA := hla
  clear hVa hVb hla hlb hr5 hc5 hp hn hv HFA hbl hwl
  go_enter Try.func4, Try.ntmps4
  go_wp2_with (first
    | ((with_reducible refine gate_dst (N := 3) rfl ?_); refine box_event ?hg (N := 3) ?hd (cs := ca) (t := 31) ?hr ?_; (case hd => rfl); (case hg => rfl); (case hr => first | (go_simp; done) | (go_simp; rfl)); intro ga hg w1 hbox hb; have GEga := Aside0.mk ((by rw [hg]; exact HB.out.size) : w.heap.size ≤ ga); have BKga := Aside0.mk hbox; clear hbox hg; have n0_ := Aside0.mk (below_step HB.out hb); clear HB; have HB := n0_; clear n0_; skip; clear hb)
    | ((with_reducible refine gate_dst (N := 4) rfl ?_); refine box_event ?hg (N := 4) ?hd (cs := cb) (t := 31) ?hr ?_; (case hd => rfl); (case hg => rfl); (case hr => first | (go_simp; done) | (go_simp; rfl)); intro gb hg w2 hbox hb; have GEgb := Aside0.mk ((by rw [hg]; exact HB.out.size) : w.heap.size ≤ gb); have BKgb := Aside0.mk hbox; clear hbox hg; have n0_ := Aside0.mk (below_step HB.out hb); have n1_ := Aside0.mk (blk_below BKga.out hb); clear HB BKga; have HB := n0_; have BKga := n1_; clear n0_ n1_; skip; clear hb)
    | ((with_reducible refine gate_dst (N := 5) rfl ?_); refine box_event ?hg (N := 5) ?hd (cs := #[.int .i64 k, .int .i64 p, .int .i64 n, .int .i64 v, .slice A4 bl.length c4, .slice A5 wl.length c5]) (t := 37) ?hr ?_; (case hd => rfl); (case hg => rfl); (case hr => first | (go_simp; done) | (go_simp; rfl)); intro go hg w3 hbox hb; have GEgo := Aside0.mk ((by rw [hg]; exact HB.out.size) : w.heap.size ≤ go); have BKgo := Aside0.mk hbox; clear hbox hg; have n0_ := Aside0.mk (below_step HB.out hb); have n1_ := Aside0.mk (blk_below BKga.out hb); have n2_ := Aside0.mk (blk_below BKgb.out hb); clear HB BKga BKgb; have HB := n0_; have BKga := n1_; have BKgb := n2_; clear n0_ n1_ n2_; have cgo_0 : w3.cell? ⟨go, 0, none⟩ = some (.int .i64 k) := (blk_cell BKgo.out 0).trans rfl; have cgo_1 : w3.cell? ⟨go, 1, none⟩ = some (.int .i64 p) := (blk_cell BKgo.out 1).trans rfl; have cgo_2 : w3.cell? ⟨go, 2, none⟩ = some (.int .i64 n) := (blk_cell BKgo.out 2).trans rfl; have cgo_3 : w3.cell? ⟨go, 3, none⟩ = some (.int .i64 v) := (blk_cell BKgo.out 3).trans rfl; have cgo_4 : w3.cell? ⟨go, 4, none⟩ = some (.slice A4 bl.length c4) := (blk_cell BKgo.out 4).trans rfl; have cgo_5 : w3.cell? ⟨go, 5, none⟩ = some (.slice A5 wl.length c5) := (blk_cell BKgo.out 5).trans rfl; clear hb)
    | (refine wpList_load_row rfl 31 _ rfl ga rfl 31 _ (0, 0) _ BKga.out hu rfl (by rw [Fi.V_size HVa.out]; exact Fi.size) ?_)
    | (go_at_call 9; (with_reducible refine (Fi.few (Fi.V_below HVa.out HB.out) HLa.out d1).mono ?_); rintro r w4 ⟨rfl, hb⟩; have n0_ := Aside0.mk (below_step HB.out hb); have n1_ := Aside0.mk (blk_below BKga.out hb); have n2_ := Aside0.mk (blk_below BKgb.out hb); have n3_ := Aside0.mk (blk_below BKgo.out hb); clear HB BKga BKgb BKgo; have HB := n0_; have BKga := n1_; have BKgb := n2_; have BKgo := n3_; clear n0_ n1_ n2_ n3_; have cgo_0 : w4.cell? ⟨go, 0, none⟩ = some (.int .i64 k) := (blk_cell BKgo.out 0).trans rfl; have cgo_1 : w4.cell? ⟨go, 1, none⟩ = some (.int .i64 p) := (blk_cell BKgo.out 1).trans rfl; have cgo_2 : w4.cell? ⟨go, 2, none⟩ = some (.int .i64 n) := (blk_cell BKgo.out 2).trans rfl; have cgo_3 : w4.cell? ⟨go, 3, none⟩ = some (.int .i64 v) := (blk_cell BKgo.out 3).trans rfl; have cgo_4 : w4.cell? ⟨go, 4, none⟩ = some (.slice A4 bl.length c4) := (blk_cell BKgo.out 4).trans rfl; have cgo_5 : w4.cell? ⟨go, 5, none⟩ = some (.slice A5 wl.length c5) := (blk_cell BKgo.out 5).trans rfl; clear hb)
    | (go_at_call 7; (with_reducible refine (Fi.sure).mono ?_); rintro r w9 ⟨rfl, hb⟩; have n0_ := Aside0.mk (below_step HB.out hb); have n1_ := Aside0.mk (blk_below BKga.out hb); have n2_ := Aside0.mk (blk_below BKgb.out hb); have n3_ := Aside0.mk (blk_below BKgo.out hb); clear HB BKga BKgb BKgo; have HB := n0_; have BKga := n1_; have BKgb := n2_; have BKgo := n3_; clear n0_ n1_ n2_ n3_; skip; clear hb))
  go_ret
  exact ⟨rfl, HB.out⟩
set_option maxHeartbeats 4000000 in
set_option maxRecDepth 100000 in
theorem Fi.any2 {w : World} {ca cb : Array Value} {xa xb : S31} (hVa : Fi.V w ca xa) (hVb : Fi.V w cb xb) (hla : xa.f1.length ≤ 140737488351232 ∧ xa.f2.length ≤ 140737488351232 ∧ xa.f3.length ≤ 140737488351232 ∧ xa.f4.length ≤ 140737488351232) (hlb : xb.f1.length ≤ 140737488351232 ∧ xb.f2.length ≤ 140737488351232 ∧ xb.f3.length ≤ 140737488351232 ∧ xb.f4.length ≤ 140737488351232)
    {k p n v : Int} {A4 A5 : Option Addr} {c4 c5 : Nat} {bl : List Bool} {wl : List Int} (hr4 : Kd.bool.C w A4 bl.length bl) (hc4 : bl.length ≤ c4) (hr5 : (Kd.int .u16).C w A5 wl.length wl) (hc5 : wl.length ≤ c5) (hp : I64 p) (hn : I64 n) (hv : I64 v) (hbl : bl.length ≤ 140737488351232) (hwl : wl.length ≤ 140737488351232) (d1 : decide (xa.f1.length + xa.f2.length + xa.f3.length + xa.f4.length ≤ 4000) = true) (d2 : decide (xb.f1.length + xb.f2.length + xb.f3.length + xb.f4.length ≤ 4000) = false) :
    Calls Try.prog 4 #[.agg ca, .agg cb, .agg #[.int .i64 k, .int .i64 p, .int .i64 n, .int .i64 v, .slice A4 bl.length c4, .slice A5 wl.length c5]] w fun e w' => e = .returned (.bool true) ∧ Below w.heap.size w w' := by
  have hu := Try.underlying31
  have hu37 := Try.underlying37
  have hz := Fi.zero
  clear hr4 hc4
  have HB := Aside0.mk (Below.refl w.heap.size w)
  have HVa := Aside0.mk hVa
  have HVb := Aside0.mk hVb
  have HLa := Aside0.mk hla
  have HLb := Aside0.mk hlb
  have HR5 := Aside0.mk hr5
  have HC5 := Aside0.mk hc5
  have HP := Aside0.mk hp
  have HNN := Aside0.mk hn
  have HVV := Aside0.mk hv
  have hw : IntKind.i64.wrap ((bl.length : Int) + (wl.length : Int)) = (bl.length : Int) + (wl.length : Int) := by rw [i64_w]; exact w64 (by omega)
  have HFA := hla
  clear hVa hVb hla hlb hr5 hc5 hp hn hv HFA hbl hwl
  go_enter Try.func4, Try.ntmps4
  go_wp2_with (first
    | ((with_reducible refine gate_dst (N := 3) rfl ?_); refine box_event ?hg (N := 3) ?hd (cs := ca) (t := 31) ?hr ?_; (case hd => rfl); (case hg => rfl); (case hr => first | (go_simp; done) | (go_simp; rfl)); intro ga hg w1 hbox hb; have GEga := Aside0.mk ((by rw [hg]; exact HB.out.size) : w.heap.size ≤ ga); have BKga := Aside0.mk hbox; clear hbox hg; have n0_ := Aside0.mk (below_step HB.out hb); clear HB; have HB := n0_; clear n0_; skip; clear hb)
    | ((with_reducible refine gate_dst (N := 4) rfl ?_); refine box_event ?hg (N := 4) ?hd (cs := cb) (t := 31) ?hr ?_; (case hd => rfl); (case hg => rfl); (case hr => first | (go_simp; done) | (go_simp; rfl)); intro gb hg w2 hbox hb; have GEgb := Aside0.mk ((by rw [hg]; exact HB.out.size) : w.heap.size ≤ gb); have BKgb := Aside0.mk hbox; clear hbox hg; have n0_ := Aside0.mk (below_step HB.out hb); have n1_ := Aside0.mk (blk_below BKga.out hb); clear HB BKga; have HB := n0_; have BKga := n1_; clear n0_ n1_; skip; clear hb)
    | ((with_reducible refine gate_dst (N := 5) rfl ?_); refine box_event ?hg (N := 5) ?hd (cs := #[.int .i64 k, .int .i64 p, .int .i64 n, .int .i64 v, .slice A4 bl.length c4, .slice A5 wl.length c5]) (t := 37) ?hr ?_; (case hd => rfl); (case hg => rfl); (case hr => first | (go_simp; done) | (go_simp; rfl)); intro go hg w3 hbox hb; have GEgo := Aside0.mk ((by rw [hg]; exact HB.out.size) : w.heap.size ≤ go); have BKgo := Aside0.mk hbox; clear hbox hg; have n0_ := Aside0.mk (below_step HB.out hb); have n1_ := Aside0.mk (blk_below BKga.out hb); have n2_ := Aside0.mk (blk_below BKgb.out hb); clear HB BKga BKgb; have HB := n0_; have BKga := n1_; have BKgb := n2_; clear n0_ n1_ n2_; have cgo_0 : w3.cell? ⟨go, 0, none⟩ = some (.int .i64 k) := (blk_cell BKgo.out 0).trans rfl; have cgo_1 : w3.cell? ⟨go, 1, none⟩ = some (.int .i64 p) := (blk_cell BKgo.out 1).trans rfl; have cgo_2 : w3.cell? ⟨go, 2, none⟩ = some (.int .i64 n) := (blk_cell BKgo.out 2).trans rfl; have cgo_3 : w3.cell? ⟨go, 3, none⟩ = some (.int .i64 v) := (blk_cell BKgo.out 3).trans rfl; have cgo_4 : w3.cell? ⟨go, 4, none⟩ = some (.slice A4 bl.length c4) := (blk_cell BKgo.out 4).trans rfl; have cgo_5 : w3.cell? ⟨go, 5, none⟩ = some (.slice A5 wl.length c5) := (blk_cell BKgo.out 5).trans rfl; clear hb)
    | ((with_reducible refine gate_dst (N := 18) rfl ?_); refine gate_guard (by rfl) ?_; dsimp only; refine wpList_load_row rfl 31 _ rfl gb rfl 31 _ (0, 0) _ BKgb.out hu rfl (by rw [Fi.V_size HVb.out]; exact Fi.size) ?_)
    | (refine wpList_load_row rfl 31 _ rfl ga rfl 31 _ (0, 0) _ BKga.out hu rfl (by rw [Fi.V_size HVa.out]; exact Fi.size) ?_)
    | (go_at_call 9; (with_reducible refine (Fi.few (Fi.V_below HVa.out HB.out) HLa.out d1).mono ?_); rintro r w4 ⟨rfl, hb⟩; have n0_ := Aside0.mk (below_step HB.out hb); have n1_ := Aside0.mk (blk_below BKga.out hb); have n2_ := Aside0.mk (blk_below BKgb.out hb); have n3_ := Aside0.mk (blk_below BKgo.out hb); clear HB BKga BKgb BKgo; have HB := n0_; have BKga := n1_; have BKgb := n2_; have BKgo := n3_; clear n0_ n1_ n2_ n3_; have cgo_0 : w4.cell? ⟨go, 0, none⟩ = some (.int .i64 k) := (blk_cell BKgo.out 0).trans rfl; have cgo_1 : w4.cell? ⟨go, 1, none⟩ = some (.int .i64 p) := (blk_cell BKgo.out 1).trans rfl; have cgo_2 : w4.cell? ⟨go, 2, none⟩ = some (.int .i64 n) := (blk_cell BKgo.out 2).trans rfl; have cgo_3 : w4.cell? ⟨go, 3, none⟩ = some (.int .i64 v) := (blk_cell BKgo.out 3).trans rfl; have cgo_4 : w4.cell? ⟨go, 4, none⟩ = some (.slice A4 bl.length c4) := (blk_cell BKgo.out 4).trans rfl; have cgo_5 : w4.cell? ⟨go, 5, none⟩ = some (.slice A5 wl.length c5) := (blk_cell BKgo.out 5).trans rfl; clear hb)
    | (go_at_call 9; (with_reducible refine (Fi.few (Fi.V_below HVb.out HB.out) HLb.out d2).mono ?_); rintro r w5 ⟨rfl, hb⟩; have n0_ := Aside0.mk (below_step HB.out hb); have n1_ := Aside0.mk (blk_below BKga.out hb); have n2_ := Aside0.mk (blk_below BKgb.out hb); have n3_ := Aside0.mk (blk_below BKgo.out hb); clear HB BKga BKgb BKgo; have HB := n0_; have BKga := n1_; have BKgb := n2_; have BKgo := n3_; clear n0_ n1_ n2_ n3_; have cgo_0 : w5.cell? ⟨go, 0, none⟩ = some (.int .i64 k) := (blk_cell BKgo.out 0).trans rfl; have cgo_1 : w5.cell? ⟨go, 1, none⟩ = some (.int .i64 p) := (blk_cell BKgo.out 1).trans rfl; have cgo_2 : w5.cell? ⟨go, 2, none⟩ = some (.int .i64 n) := (blk_cell BKgo.out 2).trans rfl; have cgo_3 : w5.cell? ⟨go, 3, none⟩ = some (.int .i64 v) := (blk_cell BKgo.out 3).trans rfl; have cgo_4 : w5.cell? ⟨go, 4, none⟩ = some (.slice A4 bl.length c4) := (blk_cell BKgo.out 4).trans rfl; have cgo_5 : w5.cell? ⟨go, 5, none⟩ = some (.slice A5 wl.length c5) := (blk_cell BKgo.out 5).trans rfl; clear hb)
    | (go_at_call 7; (with_reducible refine (Fi.sure).mono ?_); rintro r w9 ⟨rfl, hb⟩; have n0_ := Aside0.mk (below_step HB.out hb); have n1_ := Aside0.mk (blk_below BKga.out hb); have n2_ := Aside0.mk (blk_below BKgb.out hb); have n3_ := Aside0.mk (blk_below BKgo.out hb); clear HB BKga BKgb BKgo; have HB := n0_; have BKga := n1_; have BKgb := n2_; have BKgo := n3_; clear n0_ n1_ n2_ n3_; skip; clear hb))
  go_ret
  exact ⟨rfl, HB.out⟩
set_option maxHeartbeats 4000000 in
set_option maxRecDepth 100000 in
theorem Fi.any3 {w : World} {ca cb : Array Value} {xa xb : S31} (hVa : Fi.V w ca xa) (hVb : Fi.V w cb xb) (hla : xa.f1.length ≤ 140737488351232 ∧ xa.f2.length ≤ 140737488351232 ∧ xa.f3.length ≤ 140737488351232 ∧ xa.f4.length ≤ 140737488351232) (hlb : xb.f1.length ≤ 140737488351232 ∧ xb.f2.length ≤ 140737488351232 ∧ xb.f3.length ≤ 140737488351232 ∧ xb.f4.length ≤ 140737488351232)
    {k p n v : Int} {A4 A5 : Option Addr} {c4 c5 : Nat} {bl : List Bool} {wl : List Int} (hr4 : Kd.bool.C w A4 bl.length bl) (hc4 : bl.length ≤ c4) (hr5 : (Kd.int .u16).C w A5 wl.length wl) (hc5 : wl.length ≤ c5) (hp : I64 p) (hn : I64 n) (hv : I64 v) (hbl : bl.length ≤ 140737488351232) (hwl : wl.length ≤ 140737488351232) (d1 : decide (xa.f1.length + xa.f2.length + xa.f3.length + xa.f4.length ≤ 4000) = true) (d2 : decide (xb.f1.length + xb.f2.length + xb.f3.length + xb.f4.length ≤ 4000) = true) (d3 : decide ((300 : Int) < (bl.length : Int) + (wl.length : Int)) = true) :
    Calls Try.prog 4 #[.agg ca, .agg cb, .agg #[.int .i64 k, .int .i64 p, .int .i64 n, .int .i64 v, .slice A4 bl.length c4, .slice A5 wl.length c5]] w fun e w' => e = .returned (.bool true) ∧ Below w.heap.size w w' := by
  have hu := Try.underlying31
  have hu37 := Try.underlying37
  have hz := Fi.zero
  clear hr4 hc4
  have HB := Aside0.mk (Below.refl w.heap.size w)
  have HVa := Aside0.mk hVa
  have HVb := Aside0.mk hVb
  have HLa := Aside0.mk hla
  have HLb := Aside0.mk hlb
  have HR5 := Aside0.mk hr5
  have HC5 := Aside0.mk hc5
  have HP := Aside0.mk hp
  have HNN := Aside0.mk hn
  have HVV := Aside0.mk hv
  have hw : IntKind.i64.wrap ((bl.length : Int) + (wl.length : Int)) = (bl.length : Int) + (wl.length : Int) := by rw [i64_w]; exact w64 (by omega)
  have HFA := hla
  clear hVa hVb hla hlb hr5 hc5 hp hn hv HFA hbl hwl
  go_enter Try.func4, Try.ntmps4
  go_wp2_with (first
    | ((with_reducible refine gate_dst (N := 3) rfl ?_); refine box_event ?hg (N := 3) ?hd (cs := ca) (t := 31) ?hr ?_; (case hd => rfl); (case hg => rfl); (case hr => first | (go_simp; done) | (go_simp; rfl)); intro ga hg w1 hbox hb; have GEga := Aside0.mk ((by rw [hg]; exact HB.out.size) : w.heap.size ≤ ga); have BKga := Aside0.mk hbox; clear hbox hg; have n0_ := Aside0.mk (below_step HB.out hb); clear HB; have HB := n0_; clear n0_; skip; clear hb)
    | ((with_reducible refine gate_dst (N := 4) rfl ?_); refine box_event ?hg (N := 4) ?hd (cs := cb) (t := 31) ?hr ?_; (case hd => rfl); (case hg => rfl); (case hr => first | (go_simp; done) | (go_simp; rfl)); intro gb hg w2 hbox hb; have GEgb := Aside0.mk ((by rw [hg]; exact HB.out.size) : w.heap.size ≤ gb); have BKgb := Aside0.mk hbox; clear hbox hg; have n0_ := Aside0.mk (below_step HB.out hb); have n1_ := Aside0.mk (blk_below BKga.out hb); clear HB BKga; have HB := n0_; have BKga := n1_; clear n0_ n1_; skip; clear hb)
    | ((with_reducible refine gate_dst (N := 5) rfl ?_); refine box_event ?hg (N := 5) ?hd (cs := #[.int .i64 k, .int .i64 p, .int .i64 n, .int .i64 v, .slice A4 bl.length c4, .slice A5 wl.length c5]) (t := 37) ?hr ?_; (case hd => rfl); (case hg => rfl); (case hr => first | (go_simp; done) | (go_simp; rfl)); intro go hg w3 hbox hb; have GEgo := Aside0.mk ((by rw [hg]; exact HB.out.size) : w.heap.size ≤ go); have BKgo := Aside0.mk hbox; clear hbox hg; have n0_ := Aside0.mk (below_step HB.out hb); have n1_ := Aside0.mk (blk_below BKga.out hb); have n2_ := Aside0.mk (blk_below BKgb.out hb); clear HB BKga BKgb; have HB := n0_; have BKga := n1_; have BKgb := n2_; clear n0_ n1_ n2_; have cgo_0 : w3.cell? ⟨go, 0, none⟩ = some (.int .i64 k) := (blk_cell BKgo.out 0).trans rfl; have cgo_1 : w3.cell? ⟨go, 1, none⟩ = some (.int .i64 p) := (blk_cell BKgo.out 1).trans rfl; have cgo_2 : w3.cell? ⟨go, 2, none⟩ = some (.int .i64 n) := (blk_cell BKgo.out 2).trans rfl; have cgo_3 : w3.cell? ⟨go, 3, none⟩ = some (.int .i64 v) := (blk_cell BKgo.out 3).trans rfl; have cgo_4 : w3.cell? ⟨go, 4, none⟩ = some (.slice A4 bl.length c4) := (blk_cell BKgo.out 4).trans rfl; have cgo_5 : w3.cell? ⟨go, 5, none⟩ = some (.slice A5 wl.length c5) := (blk_cell BKgo.out 5).trans rfl; clear hb)
    | ((with_reducible refine gate_dst (N := 18) rfl ?_); refine gate_guard (by rfl) ?_; dsimp only; refine wpList_load_row rfl 31 _ rfl gb rfl 31 _ (0, 0) _ BKgb.out hu rfl (by rw [Fi.V_size HVb.out]; exact Fi.size) ?_)
    | (refine wpList_load_row rfl 31 _ rfl ga rfl 31 _ (0, 0) _ BKga.out hu rfl (by rw [Fi.V_size HVa.out]; exact Fi.size) ?_)
    | (go_at_call 9; (with_reducible refine (Fi.few (Fi.V_below HVa.out HB.out) HLa.out d1).mono ?_); rintro r w4 ⟨rfl, hb⟩; have n0_ := Aside0.mk (below_step HB.out hb); have n1_ := Aside0.mk (blk_below BKga.out hb); have n2_ := Aside0.mk (blk_below BKgb.out hb); have n3_ := Aside0.mk (blk_below BKgo.out hb); clear HB BKga BKgb BKgo; have HB := n0_; have BKga := n1_; have BKgb := n2_; have BKgo := n3_; clear n0_ n1_ n2_ n3_; have cgo_0 : w4.cell? ⟨go, 0, none⟩ = some (.int .i64 k) := (blk_cell BKgo.out 0).trans rfl; have cgo_1 : w4.cell? ⟨go, 1, none⟩ = some (.int .i64 p) := (blk_cell BKgo.out 1).trans rfl; have cgo_2 : w4.cell? ⟨go, 2, none⟩ = some (.int .i64 n) := (blk_cell BKgo.out 2).trans rfl; have cgo_3 : w4.cell? ⟨go, 3, none⟩ = some (.int .i64 v) := (blk_cell BKgo.out 3).trans rfl; have cgo_4 : w4.cell? ⟨go, 4, none⟩ = some (.slice A4 bl.length c4) := (blk_cell BKgo.out 4).trans rfl; have cgo_5 : w4.cell? ⟨go, 5, none⟩ = some (.slice A5 wl.length c5) := (blk_cell BKgo.out 5).trans rfl; clear hb)
    | (go_at_call 9; (with_reducible refine (Fi.few (Fi.V_below HVb.out HB.out) HLb.out d2).mono ?_); rintro r w5 ⟨rfl, hb⟩; have n0_ := Aside0.mk (below_step HB.out hb); have n1_ := Aside0.mk (blk_below BKga.out hb); have n2_ := Aside0.mk (blk_below BKgb.out hb); have n3_ := Aside0.mk (blk_below BKgo.out hb); clear HB BKga BKgb BKgo; have HB := n0_; have BKga := n1_; have BKgb := n2_; have BKgo := n3_; clear n0_ n1_ n2_ n3_; have cgo_0 : w5.cell? ⟨go, 0, none⟩ = some (.int .i64 k) := (blk_cell BKgo.out 0).trans rfl; have cgo_1 : w5.cell? ⟨go, 1, none⟩ = some (.int .i64 p) := (blk_cell BKgo.out 1).trans rfl; have cgo_2 : w5.cell? ⟨go, 2, none⟩ = some (.int .i64 n) := (blk_cell BKgo.out 2).trans rfl; have cgo_3 : w5.cell? ⟨go, 3, none⟩ = some (.int .i64 v) := (blk_cell BKgo.out 3).trans rfl; have cgo_4 : w5.cell? ⟨go, 4, none⟩ = some (.slice A4 bl.length c4) := (blk_cell BKgo.out 4).trans rfl; have cgo_5 : w5.cell? ⟨go, 5, none⟩ = some (.slice A5 wl.length c5) := (blk_cell BKgo.out 5).trans rfl; clear hb)
    | (go_at_call 7; (with_reducible refine (Fi.sure).mono ?_); rintro r w9 ⟨rfl, hb⟩; have n0_ := Aside0.mk (below_step HB.out hb); have n1_ := Aside0.mk (blk_below BKga.out hb); have n2_ := Aside0.mk (blk_below BKgb.out hb); have n3_ := Aside0.mk (blk_below BKgo.out hb); clear HB BKga BKgb BKgo; have HB := n0_; have BKga := n1_; have BKgb := n2_; have BKgo := n3_; clear n0_ n1_ n2_ n3_; skip; clear hb))
  go_ret
  exact ⟨rfl, HB.out⟩

end Go.Proofs.Ytamcpmfimicnjaa.P
