-- Written by the session's own turn of the kit's print program (wip/patch_print.py). Not trusted: Lean checks it.
import Derived.Test.YtamcpmfimicnjaaPx0
import Derived.Test.YtamcpmfimicnjaaPx9
namespace Go.Proofs.Ytamcpmfimicnjaa.P
open Go.RowKit Go.Proofs.YtamcpmfimicnjaaW.PrintWords Go.Proofs.YtamcpmfimicnjaaW.PrintLast Go.Proofs.YtamcpmfimicnjaaW.PrintMore
attribute [local go_sem] max2_int min2_int max_two min_two max_three min_three max_four min_four   -- for this text's walks alone
set_option linter.unusedVariables false
set_option linter.unusedSimpArgs false

/-! ### cells_Words: function 39 -/
def cells_Words.f (k : Nat) (a0_0 : Int) (a0_1 : Int) (l1 : List Int) (a2 : Int) (a3 : Int) : Option (List Int × Int) := (cells_read_uint16.f k a0_0 a0_1 l1 a2 a3).bind fun bt118 => (some (bt118.1, bt118.2))
theorem cells_Words.mono : ∀ a0 a1 a2 a3 a4 k, LeO (cells_Words.f k a0 a1 a2 a3 a4) (cells_Words.f (k + 1) a0 a1 a2 a3 a4) := by
 intro a0 a1 a2 a3 a4 k
 unfold cells_Words.f
 repeat' first
   | (with_reducible exact cells_read_uint16.mono _ _ _ _ _ _)
   | (with_reducible exact LeO.refl _)
   | (with_reducible exact LeO.none _)
   | (with_reducible refine LeO.ite ?_ ?_)
   | (with_reducible refine LeO.bind ?_ (fun _ => ?_))
   | exact cells_read_uint16.mono _ _ _ _ _ _
   | exact LeO.none _
   | refine LeO.ite ?_ ?_
   | refine LeO.bind ?_ (fun _ => ?_)
set_option maxHeartbeats 8000000 in
set_option maxRecDepth 100000 in
theorem cells_Words.calls (k : Nat) (a0_0 : Int) (a0_1 : Int) (A1 : Option Addr) (c1 : Nat) (l1 : List Int) (a2 : Int) (a3 : Int) (r1 : List Int) (r2 : Int) (w : World) (hr1 : Kd.C (Kd.int .u16) w A1 l1.length l1) (hc1 : l1.length ≤ c1) (h : cells_Words.f k a0_0 a0_1 l1 a2 a3 = some (r1, r2)) :
  Calls Try.prog 39 #[.agg #[.int .i64 a0_0, .int .i64 a0_1], .slice A1 l1.length c1, .int .i64 a2, .int .i64 a3] w fun e w' => ∃ v0_ : Value, e = .returned (.tuple #[v0_, .int .i64 r2]) ∧ Kd.R (Kd.int .u16) 53 w' w.heap.size (fun _ => True) v0_ r1 ∧ Below w.heap.size w w' := by
 have hu23 := Try.underlying23
 have HR1 := Aside0.mk hr1
 have HC1 := Aside0.mk hc1
 clear hr1 hc1
 have HB := Aside0.mk (Below.refl w.heap.size w)
 have H : ((cells_read_uint16.f k a0_0 a0_1 l1 a2 a3).bind fun bt118 => (some (bt118.1, bt118.2))) = some (r1, r2) := h
 clear h
 replace H := Option.bind_eq_some_iff.mp H
 obtain ⟨⟨t118, t121⟩, A50, H⟩ := H
 replace H : (some (t118, t121)) = some (r1, r2) := H
 have A5 := Aside0.mk A50
 clear A50
 simp only [Option.some.injEq, Prod.mk.injEq] at H
 obtain ⟨rfl, rfl⟩ := H
 go_enter Try.func39, Try.ntmps39
 go_wp2_with (first | ((with_reducible refine gate_dst (N := 4) rfl ?_); refine box_event ?hg (N := 4) ?hd (cs := #[.int .i64 a0_0, .int .i64 a0_1]) (t := 23) ?hr ?_; (case hd => rfl); (case hg => rfl); (case hr => first | (go_simp; done) | (go_simp; rfl)); intro gb117 hg w6 hbox hb; have n0_ := Aside0.mk (below_step (by repeat (first | (with_reducible first | exact HB.out | apply below_alloc | apply pw_below_drewN | apply below_drew1) | exact HB.out)) hb); have n1_ := Aside0.mk (hbox); have n2_ := Aside0.mk ((by rw [hg]; exact (below_size (by repeat (first | (with_reducible first | exact HB.out | apply below_alloc | apply pw_below_drewN | apply below_drew1) | exact HB.out))) : w.heap.size ≤ gb117)); have n3_ := Aside0.mk ((by rw [hg]; exact (below_size (by repeat (first | (with_reducible first | exact HB.out | apply below_alloc | apply pw_below_drewN | apply below_drew1) | exact HB.out))) : w.heap.size ≤ gb117)); clear HB; have HB := n0_; have BK117 := n1_; have GW117 := n2_; have GE117 := n3_; clear n0_ n1_ n2_ n3_; clear hb hbox hg; have hcz7_0 : w6.cell? ⟨gb117, 0, none⟩ = some (.int .i64 a0_0) := (blk_cell BK117.out 0).trans rfl; have hcz7_1 : w6.cell? ⟨gb117, 1, none⟩ = some (.int .i64 a0_1) := (blk_cell BK117.out 1).trans rfl; have hfz7_0 := blk_frozen BK117.out 0; have hfz7_1 := blk_frozen BK117.out 1) | ((with_reducible refine gate_callee (f := 54) rfl ?_); refine goesL_ (some 14) rfl rfl Try.func54 (by kernel_rfl) rfl #[.agg #[.int .i64 a0_0, .int .i64 a0_1], .slice A1 l1.length c1, .int .i64 a2, .int .i64 a3] rfl (by (try simp only [List.map_toArray, List.map_cons, List.map_nil]); first | done | rfl | (simp only [List.length_drop, List.length_take]; rfl)) ?_; (with_reducible refine (cells_read_uint16.calls k a0_0 a0_1 _ _ l1 a2 a3 t118 t121 _ ?side1 ?side2 A5.out).mono ?_); (case side1 => repeat (first | exact (Kd.C_below HR1.out HB.out) | (with_reducible refine Kd.C_alloc ?_ _) | (with_reducible refine Kd.C_drewN ?_ _) | (with_reducible refine Kd.C_drew ?_))); (case side2 => exact HC1.out); rintro e w8 ⟨v119, rfl, ho0, hb⟩; refine ⟨_, rfl, ?_⟩; have n0_ := Aside0.mk (Kd.R_lower ho0 (below_size (by repeat (first | (with_reducible first | exact HB.out | apply below_alloc | apply pw_below_drewN | apply below_drew1 | refine below_set ?_ GE117.out) | exact HB.out)))); have n1_ := Aside0.mk (blk_below (g := gb117) (o := .cells #[.int .i64 a0_0, .int .i64 a0_1] 23 (0, 0)) (by (with_reducible repeat (first | refine blk_drewN ?_ _ | refine blk_drew ?_ | refine blk_alloc ?_ _)); exact BK117.out) hb); have n2_ := Aside0.mk (below_step (by repeat (first | (with_reducible first | exact HB.out | apply below_alloc | apply pw_below_drewN | apply below_drew1 | refine below_set ?_ GE117.out) | exact HB.out)) hb); clear BK117; clear HB; have HO120 := n0_; have BK117 := n1_; have HB := n2_; clear n0_ n1_ n2_; (try clear hb); (try clear hb2); (try clear hk); (try clear hi); (try clear ho0)))
 go_ret2
 exact ⟨_, by first | rfl | (simp [errW_none, errW_some] <;> rfl) | (simp [*, errW_none, errW_some] <;> rfl), by (with_reducible repeat (first | apply Kd.R_alloc | apply Kd.R_drewN | apply Kd.R_drew)); exact HO120.out, by repeat (first | (with_reducible first | exact HB.out | apply below_alloc | apply pw_below_drewN | apply below_drew1 | refine below_set ?_ GE117.out) | exact HB.out)⟩

/-! ### cells_write_uint16: function 51 -/
def cells_write_uint16.put (l with_ : List Int) (s : Nat) : List Int := l.take s ++ with_.take (min with_.length (l.length - s)) ++ l.drop (s + min with_.length (l.length - s))
def cells_write_uint16.f (k : Nat) (a0_0 a0_1 : Int) (l1 : List Int) (a2 : Int) (l3 : List Int) : Option (List Int × Int) :=
  (cells_read_uint16.f k a0_0 a0_1 l1 a2 (l3.length : Int)).bind fun bt => if bt.2 = 0 then (if 0 ≤ wrap64 (a2 - a0_0) then (if wrap64 (a2 - a0_0) ≤ (l1.length : Int) then (if l1.length * 2 ≤ 281474976710656 then
    some (cells_write_uint16.put l1 l3 (wrap64 (a2 - a0_0)).toNat, 0) else none) else none) else none) else some ([], bt.2)
theorem cells_write_uint16.mono : ∀ a0 a1 a2 a3 a4 k, LeO (cells_write_uint16.f k a0 a1 a2 a3 a4) (cells_write_uint16.f (k + 1) a0 a1 a2 a3 a4) := by
  intro a0 a1 a2 a3 a4 k
  unfold cells_write_uint16.f
  repeat' first
    | (with_reducible exact cells_read_uint16.mono _ _ _ _ _ _)
    | (with_reducible exact LeO.refl _)
    | (with_reducible exact LeO.none _)
    | (with_reducible refine LeO.ite ?_ ?_)
    | (with_reducible refine LeO.bind ?_ (fun _ => ?_))
theorem cells_write_uint16.info : (Try.prog.info? 53).map (fun i => (i.zero, i.size, i.bytes)) = some (some (.int .u16 0), 1, 2) := by kernel_rfl
theorem cells_write_uint16.info1 : (Try.prog.info? 53).map (·.size) = some 1 := by kernel_rfl
set_option maxHeartbeats 4000000 in
set_option maxRecDepth 100000 in
theorem cells_write_uint16.calls (k : Nat) (a0_0 : Int) (a0_1 : Int) (A1 : Option Addr) (c1 : Nat) (l1 : List Int) (a2 : Int) (A3 : Option Addr) (c3 : Nat) (l3 : List Int) (r1 : List Int) (r2 : Int) (w : World) (hr1 : Kd.C (Kd.int .u16) w A1 l1.length l1) (hc1 : l1.length ≤ c1) (hr3 : Kd.C (Kd.int .u16) w A3 l3.length l3) (hc3 : l3.length ≤ c3) (h : cells_write_uint16.f k a0_0 a0_1 l1 a2 l3 = some (r1, r2)) :
    Calls Try.prog 51 #[.agg #[.int .i64 a0_0, .int .i64 a0_1], .slice A1 l1.length c1, .int .i64 a2, .slice A3 l3.length c3] w fun e w' => ∃ v0_ : Value, e = .returned (.tuple #[v0_, .int .i64 r2]) ∧ Kd.R (Kd.int .u16) 53 w' w.heap.size (fun _ => True) v0_ r1 ∧ Below w.heap.size w w' := by
  have hu1 := Try.underlying23
  have HR := Aside0.mk hr1
  have HC := Aside0.mk hc1
  have HR3 := Aside0.mk hr3
  have HC3 := Aside0.mk hc3
  clear hr1 hc1 hr3 hc3
  have HB := Aside0.mk (Below.refl w.heap.size w)
  unfold cells_write_uint16.f at h
  obtain ⟨⟨t1, t2⟩, A1_, h⟩ := Option.bind_eq_some_iff.1 h
  have HA1 := Aside0.mk A1_
  clear A1_
  simp only at h
  by_cases c0 : t2 = 0
  · subst c0
    simp only [if_true] at h
    have hs0 : 0 ≤ wrap64 (a2 - a0_0) := by
      apply Classical.byContradiction; intro hh; rw [if_neg hh] at h; cases h
    rw [if_pos hs0] at h
    have hs1 : wrap64 (a2 - a0_0) ≤ (l1.length : Int) := by
      apply Classical.byContradiction; intro hh; rw [if_neg hh] at h; cases h
    rw [if_pos hs1] at h
    have hs2 : l1.length * 2 ≤ 281474976710656 := by
      apply Classical.byContradiction; intro hh; rw [if_neg hh] at h; cases h
    rw [if_pos hs2] at h
    simp only [Option.some.injEq, Prod.mk.injEq] at h
    obtain ⟨rfl, rfl⟩ := h
    obtain ⟨s, hs⟩ : ∃ s : Nat, wrap64 (a2 - a0_0) = (s : Int) := ⟨(wrap64 (a2 - a0_0)).toNat, by omega⟩
    have es : (wrap64 (a2 - a0_0)).toNat = s := by omega
    have e64 : IntKind.i64.wrap (a2 - a0_0) = (s : Int) := (i64_w _).trans hs
    rw [es]
    have hsl : s ≤ l1.length := by omega
    have HL2 := Aside0.mk hs2
    have hln : l1.length ≤ 9223372036854775807 := HR.out.2.1
    have hln3 : l3.length ≤ 9223372036854775807 := HR3.out.2.1
    obtain ⟨i0, hi0, _, hsz0, _⟩ := info_parts cells_write_uint16.info
    have HI := Aside0.mk hi0
    have HZ := Aside0.mk hsz0
    clear hs es hs0 hs1 hs2 hi0 hsz0
    go_enter Try.func51, Try.ntmps51
    go_wp2_with (first
      | (go_at_call 54; refine (cells_read_uint16.calls k _ _ _ _ _ _ _ _ _ _ (Kd.C_below HR.out (below_alloc HB.out _)) HC.out HA1.out).mono ?_; rintro e w1 ⟨v0, rfl, _, hb1⟩; have HB1 := Aside0.mk (below_step (below_alloc HB.out _) hb1); have GG := Aside0.mk (blk_below (blk_new w (.cells #[.int .i64 a0_0, .int .i64 a0_1] 23)) hb1); clear hb1)
      | ((with_reducible refine gate_dst (N := 27) rfl ?_); refine Kd.R_make (Kd.int .u16) w.heap.size 53 rfl (N := 27) rfl 29 _ _ rfl (l1.length : Int) rfl rfl Try.underlying29 (.int .u16 0) 2 cells_write_uint16.info rfl (by decide) (by omega) (0 : Int) (ok := fun _ => True) (okp := fun _ => True) rfl (fun _ hk => hk) trivial (by omega) HL2.out HB1.out (below_size HB1.out) ?_; intro v1 w3 ho hb hg _; have HO := Aside0.mk ho; have HB3 := Aside0.mk hb; have GG3 := Aside0.mk (blk_grown GG.out hg (by simp)); clear ho hb hg)
      | ((with_reducible refine gate_dst (N := 30) rfl ?_); refine Kd.R_copy (enc := (Value.int .u16)) (h1 := fun _ => rfl) (0 : Int) w.heap.size rfl (.tmp 28) (.tmp 29) 29 29 53 rfl Try.underlying29 cells_write_uint16.info1 v1 _ l1 A1 l1.length c1 (fun _ => True) rfl rfl HO.out (Kd.C_below HR.out HB3.out) HB3.out (below_size HB3.out) ?_; intro w4 ho hb hg; have ho2 := ho; rw [show (l1.take (min l1.length (List.replicate ((l1.length : Int)).toNat (0 : Int)).length) ++ (List.replicate ((l1.length : Int)).toNat (0 : Int)).drop (min l1.length (List.replicate ((l1.length : Int)).toNat (0 : Int)).length)) = l1 by simp] at ho2; have HO4 := Aside0.mk ho2; have HB4 := Aside0.mk hb; have GG4 := Aside0.mk (blk_grown GG3.out hg (fun hh => by have h1 := (Kd.R_bound HO.out).1 _ hh.symm; obtain ⟨_, _, _, q, hq, cells, hc⟩ := h1; have h2 := GG3.out; rw [hc] at h2; injection h2 with h2; injection h2 with _ h3; subst h3; exact absurd (show 23 ∈ [53] from hq) (by decide))); clear ho ho2 hb hg HO; obtain ⟨Ao, co, eo⟩ := Kd.R_slice HO4.out; subst eo; have hx3 : w4.cell? ⟨w.heap.size, 0, none⟩ = some (.int .i64 a0_0) := (blk_cell GG4.out 0).trans rfl; have hcut := cut_from (P := Try.prog) 29 53 .i64 Try.underlying29 HI.out 1 HZ.out Ao l1.length co (s : Int) (by omega) (by omega); simp only [Int.toNat_natCast] at hcut; obtain ⟨B, hB⟩ : ∃ B, (if co = s then Ao else Ao.map (·.add (s * 1))) = B := ⟨_, rfl⟩; rw [hB] at hcut; have HBB := Aside0.mk hB; clear hB)
      | ((with_reducible refine gate_dst (N := 38) rfl ?_); refine Go.Proofs.YtamcpmfimicnjaaW.X.R_copyAt (enc := (Value.int .u16)) (h1 := fun _ => rfl) (0 : Int) w.heap.size rfl (.tmp 36) (.tmp 37) 29 29 53 rfl Try.underlying29 cells_write_uint16.info1 Ao co l1 l3 s hsl B HBB.out _ l3.length _ (fun _ => True) rfl rfl HO4.out (Kd.C_below HR3.out HB4.out) HB4.out (below_size HB4.out) ?_; intro w5 ho hb _; have HO5 := Aside0.mk ho; have HB5 := Aside0.mk hb; clear ho hb))
    go_ret2
    exact ⟨_, rfl, HO5.out, HB5.out⟩
  · rw [if_neg c0] at h
    simp only [Option.some.injEq, Prod.mk.injEq] at h
    obtain ⟨rfl, rfl⟩ := h
    have b0 : (t2 != 0) = true := by simpa using c0
    have b1 : (t2 == 0) = false := by simpa using c0
    have hln3 : l3.length ≤ 9223372036854775807 := HR3.out.2.1
    clear c0
    go_enter Try.func51, Try.ntmps51
    go_wp2_with (first | (go_at_call 54; refine (cells_read_uint16.calls k _ _ _ _ _ _ _ _ _ _ (Kd.C_below HR.out (below_alloc HB.out _)) HC.out HA1.out).mono ?_; rintro e w1 ⟨v0, rfl, _, hb1⟩; have HB1 := Aside0.mk (below_step (below_alloc HB.out _) hb1); clear hb1))
    go_ret2
    exact ⟨_, rfl, Kd.R_nil _ _ _ _ _, HB1.out⟩


/-! ### cells_Bits: function 32 -/
def cells_Bits.f (k : Nat) (a0_0 : Int) (a0_1 : Int) (l1 : List Bool) (a2 : Int) (a3 : Int) : Option (List Bool × Int) := (cells_read_bool.f k a0_0 a0_1 l1 a2 a3).bind fun bt128 => (some (bt128.1, bt128.2))
theorem cells_Bits.mono : ∀ a0 a1 a2 a3 a4 k, LeO (cells_Bits.f k a0 a1 a2 a3 a4) (cells_Bits.f (k + 1) a0 a1 a2 a3 a4) := by
 intro a0 a1 a2 a3 a4 k
 unfold cells_Bits.f
 repeat' first
   | (with_reducible exact cells_read_bool.mono _ _ _ _ _ _)
   | (with_reducible exact LeO.refl _)
   | (with_reducible exact LeO.none _)
   | (with_reducible refine LeO.ite ?_ ?_)
   | (with_reducible refine LeO.bind ?_ (fun _ => ?_))
   | exact cells_read_bool.mono _ _ _ _ _ _
   | exact LeO.none _
   | refine LeO.ite ?_ ?_
   | refine LeO.bind ?_ (fun _ => ?_)
set_option maxHeartbeats 8000000 in
set_option maxRecDepth 100000 in
theorem cells_Bits.calls (k : Nat) (a0_0 : Int) (a0_1 : Int) (A1 : Option Addr) (c1 : Nat) (l1 : List Bool) (a2 : Int) (a3 : Int) (r1 : List Bool) (r2 : Int) (w : World) (hr1 : Kd.C Kd.bool w A1 l1.length l1) (hc1 : l1.length ≤ c1) (h : cells_Bits.f k a0_0 a0_1 l1 a2 a3 = some (r1, r2)) :
  Calls Try.prog 32 #[.agg #[.int .i64 a0_0, .int .i64 a0_1], .slice A1 l1.length c1, .int .i64 a2, .int .i64 a3] w fun e w' => ∃ v0_ : Value, e = .returned (.tuple #[v0_, .int .i64 r2]) ∧ Kd.R Kd.bool 4 w' w.heap.size (fun _ => True) v0_ r1 ∧ Below w.heap.size w w' := by
 have hu23 := Try.underlying23
 have HR1 := Aside0.mk hr1
 have HC1 := Aside0.mk hc1
 clear hr1 hc1
 have HB := Aside0.mk (Below.refl w.heap.size w)
 have H : ((cells_read_bool.f k a0_0 a0_1 l1 a2 a3).bind fun bt128 => (some (bt128.1, bt128.2))) = some (r1, r2) := h
 clear h
 replace H := Option.bind_eq_some_iff.mp H
 obtain ⟨⟨t128, t131⟩, A50, H⟩ := H
 replace H : (some (t128, t131)) = some (r1, r2) := H
 have A5 := Aside0.mk A50
 clear A50
 simp only [Option.some.injEq, Prod.mk.injEq] at H
 obtain ⟨rfl, rfl⟩ := H
 go_enter Try.func32, Try.ntmps32
 go_wp2_with (first | ((with_reducible refine gate_dst (N := 4) rfl ?_); refine box_event ?hg (N := 4) ?hd (cs := #[.int .i64 a0_0, .int .i64 a0_1]) (t := 23) ?hr ?_; (case hd => rfl); (case hg => rfl); (case hr => first | (go_simp; done) | (go_simp; rfl)); intro gb127 hg w6 hbox hb; have n0_ := Aside0.mk (below_step (by repeat (first | (with_reducible first | exact HB.out | apply below_alloc | apply pw_below_drewN | apply below_drew1) | exact HB.out)) hb); have n1_ := Aside0.mk (hbox); have n2_ := Aside0.mk ((by rw [hg]; exact (below_size (by repeat (first | (with_reducible first | exact HB.out | apply below_alloc | apply pw_below_drewN | apply below_drew1) | exact HB.out))) : w.heap.size ≤ gb127)); have n3_ := Aside0.mk ((by rw [hg]; exact (below_size (by repeat (first | (with_reducible first | exact HB.out | apply below_alloc | apply pw_below_drewN | apply below_drew1) | exact HB.out))) : w.heap.size ≤ gb127)); clear HB; have HB := n0_; have BK127 := n1_; have GW127 := n2_; have GE127 := n3_; clear n0_ n1_ n2_ n3_; clear hb hbox hg; have hcz7_0 : w6.cell? ⟨gb127, 0, none⟩ = some (.int .i64 a0_0) := (blk_cell BK127.out 0).trans rfl; have hcz7_1 : w6.cell? ⟨gb127, 1, none⟩ = some (.int .i64 a0_1) := (blk_cell BK127.out 1).trans rfl; have hfz7_0 := blk_frozen BK127.out 0; have hfz7_1 := blk_frozen BK127.out 1) | ((with_reducible refine gate_callee (f := 50) rfl ?_); refine goesL_ (some 14) rfl rfl Try.func50 (by kernel_rfl) rfl #[.agg #[.int .i64 a0_0, .int .i64 a0_1], .slice A1 l1.length c1, .int .i64 a2, .int .i64 a3] rfl (by (try simp only [List.map_toArray, List.map_cons, List.map_nil]); first | done | rfl | (simp only [List.length_drop, List.length_take]; rfl)) ?_; (with_reducible refine (cells_read_bool.calls k a0_0 a0_1 _ _ l1 a2 a3 t128 t131 _ ?side1 ?side2 A5.out).mono ?_); (case side1 => repeat (first | exact (Kd.C_below HR1.out HB.out) | (with_reducible refine Kd.C_alloc ?_ _) | (with_reducible refine Kd.C_drewN ?_ _) | (with_reducible refine Kd.C_drew ?_))); (case side2 => exact HC1.out); rintro e w8 ⟨v129, rfl, ho0, hb⟩; refine ⟨_, rfl, ?_⟩; have n0_ := Aside0.mk (Kd.R_lower ho0 (below_size (by repeat (first | (with_reducible first | exact HB.out | apply below_alloc | apply pw_below_drewN | apply below_drew1 | refine below_set ?_ GE127.out) | exact HB.out)))); have n1_ := Aside0.mk (blk_below (g := gb127) (o := .cells #[.int .i64 a0_0, .int .i64 a0_1] 23 (0, 0)) (by (with_reducible repeat (first | refine blk_drewN ?_ _ | refine blk_drew ?_ | refine blk_alloc ?_ _)); exact BK127.out) hb); have n2_ := Aside0.mk (below_step (by repeat (first | (with_reducible first | exact HB.out | apply below_alloc | apply pw_below_drewN | apply below_drew1 | refine below_set ?_ GE127.out) | exact HB.out)) hb); clear BK127; clear HB; have HO130 := n0_; have BK127 := n1_; have HB := n2_; clear n0_ n1_ n2_; (try clear hb); (try clear hb2); (try clear hk); (try clear hi); (try clear ho0)))
 go_ret2
 exact ⟨_, by first | rfl | (simp [errW_none, errW_some] <;> rfl) | (simp [*, errW_none, errW_some] <;> rfl), by (with_reducible repeat (first | apply Kd.R_alloc | apply Kd.R_drewN | apply Kd.R_drew)); exact HO130.out, by repeat (first | (with_reducible first | exact HB.out | apply below_alloc | apply pw_below_drewN | apply below_drew1 | refine below_set ?_ GE127.out) | exact HB.out)⟩

/-! ### cells_write_bool: function 49 -/
def cells_write_bool.put (l with_ : List Bool) (s : Nat) : List Bool := l.take s ++ with_.take (min with_.length (l.length - s)) ++ l.drop (s + min with_.length (l.length - s))
def cells_write_bool.f (k : Nat) (a0_0 a0_1 : Int) (l1 : List Bool) (a2 : Int) (l3 : List Bool) : Option (List Bool × Int) :=
  (cells_read_bool.f k a0_0 a0_1 l1 a2 (l3.length : Int)).bind fun bt => if bt.2 = 0 then (if 0 ≤ wrap64 (a2 - a0_0) then (if wrap64 (a2 - a0_0) ≤ (l1.length : Int) then (if l1.length * 1 ≤ 281474976710656 then
    some (cells_write_bool.put l1 l3 (wrap64 (a2 - a0_0)).toNat, 0) else none) else none) else none) else some ([], bt.2)
theorem cells_write_bool.mono : ∀ a0 a1 a2 a3 a4 k, LeO (cells_write_bool.f k a0 a1 a2 a3 a4) (cells_write_bool.f (k + 1) a0 a1 a2 a3 a4) := by
  intro a0 a1 a2 a3 a4 k
  unfold cells_write_bool.f
  repeat' first
    | (with_reducible exact cells_read_bool.mono _ _ _ _ _ _)
    | (with_reducible exact LeO.refl _)
    | (with_reducible exact LeO.none _)
    | (with_reducible refine LeO.ite ?_ ?_)
    | (with_reducible refine LeO.bind ?_ (fun _ => ?_))
theorem cells_write_bool.info : (Try.prog.info? 4).map (fun i => (i.zero, i.size, i.bytes)) = some (some (.bool false), 1, 1) := by kernel_rfl
theorem cells_write_bool.info1 : (Try.prog.info? 4).map (·.size) = some 1 := by kernel_rfl
set_option maxHeartbeats 4000000 in
set_option maxRecDepth 100000 in
theorem cells_write_bool.calls (k : Nat) (a0_0 : Int) (a0_1 : Int) (A1 : Option Addr) (c1 : Nat) (l1 : List Bool) (a2 : Int) (A3 : Option Addr) (c3 : Nat) (l3 : List Bool) (r1 : List Bool) (r2 : Int) (w : World) (hr1 : Kd.C Kd.bool w A1 l1.length l1) (hc1 : l1.length ≤ c1) (hr3 : Kd.C Kd.bool w A3 l3.length l3) (hc3 : l3.length ≤ c3) (h : cells_write_bool.f k a0_0 a0_1 l1 a2 l3 = some (r1, r2)) :
    Calls Try.prog 49 #[.agg #[.int .i64 a0_0, .int .i64 a0_1], .slice A1 l1.length c1, .int .i64 a2, .slice A3 l3.length c3] w fun e w' => ∃ v0_ : Value, e = .returned (.tuple #[v0_, .int .i64 r2]) ∧ Kd.R Kd.bool 4 w' w.heap.size (fun _ => True) v0_ r1 ∧ Below w.heap.size w w' := by
  have hu1 := Try.underlying23
  have HR := Aside0.mk hr1
  have HC := Aside0.mk hc1
  have HR3 := Aside0.mk hr3
  have HC3 := Aside0.mk hc3
  clear hr1 hc1 hr3 hc3
  have HB := Aside0.mk (Below.refl w.heap.size w)
  unfold cells_write_bool.f at h
  obtain ⟨⟨t1, t2⟩, A1_, h⟩ := Option.bind_eq_some_iff.1 h
  have HA1 := Aside0.mk A1_
  clear A1_
  simp only at h
  by_cases c0 : t2 = 0
  · subst c0
    simp only [if_true] at h
    have hs0 : 0 ≤ wrap64 (a2 - a0_0) := by
      apply Classical.byContradiction; intro hh; rw [if_neg hh] at h; cases h
    rw [if_pos hs0] at h
    have hs1 : wrap64 (a2 - a0_0) ≤ (l1.length : Int) := by
      apply Classical.byContradiction; intro hh; rw [if_neg hh] at h; cases h
    rw [if_pos hs1] at h
    have hs2 : l1.length * 1 ≤ 281474976710656 := by
      apply Classical.byContradiction; intro hh; rw [if_neg hh] at h; cases h
    rw [if_pos hs2] at h
    simp only [Option.some.injEq, Prod.mk.injEq] at h
    obtain ⟨rfl, rfl⟩ := h
    obtain ⟨s, hs⟩ : ∃ s : Nat, wrap64 (a2 - a0_0) = (s : Int) := ⟨(wrap64 (a2 - a0_0)).toNat, by omega⟩
    have es : (wrap64 (a2 - a0_0)).toNat = s := by omega
    have e64 : IntKind.i64.wrap (a2 - a0_0) = (s : Int) := (i64_w _).trans hs
    rw [es]
    have hsl : s ≤ l1.length := by omega
    have HL2 := Aside0.mk hs2
    have hln : l1.length ≤ 9223372036854775807 := HR.out.2.1
    have hln3 : l3.length ≤ 9223372036854775807 := HR3.out.2.1
    obtain ⟨i0, hi0, _, hsz0, _⟩ := info_parts cells_write_bool.info
    have HI := Aside0.mk hi0
    have HZ := Aside0.mk hsz0
    clear hs es hs0 hs1 hs2 hi0 hsz0
    go_enter Try.func49, Try.ntmps49
    go_wp2_with (first
      | (go_at_call 50; refine (cells_read_bool.calls k _ _ _ _ _ _ _ _ _ _ (Kd.C_below HR.out (below_alloc HB.out _)) HC.out HA1.out).mono ?_; rintro e w1 ⟨v0, rfl, _, hb1⟩; have HB1 := Aside0.mk (below_step (below_alloc HB.out _) hb1); have GG := Aside0.mk (blk_below (blk_new w (.cells #[.int .i64 a0_0, .int .i64 a0_1] 23)) hb1); clear hb1)
      | ((with_reducible refine gate_dst (N := 27) rfl ?_); refine Kd.R_make Kd.bool w.heap.size 4 rfl (N := 27) rfl 28 _ _ rfl (l1.length : Int) rfl rfl Try.underlying28 (.bool false) 1 cells_write_bool.info rfl (by decide) (by omega) false (ok := fun _ => True) (okp := fun _ => True) rfl (fun _ hk => hk) trivial (by omega) HL2.out HB1.out (below_size HB1.out) ?_; intro v1 w3 ho hb hg _; have HO := Aside0.mk ho; have HB3 := Aside0.mk hb; have GG3 := Aside0.mk (blk_grown GG.out hg (by simp)); clear ho hb hg)
      | ((with_reducible refine gate_dst (N := 30) rfl ?_); refine Kd.R_copy (enc := Value.bool) (h1 := fun _ => rfl) false w.heap.size rfl (.tmp 28) (.tmp 29) 28 28 4 rfl Try.underlying28 cells_write_bool.info1 v1 _ l1 A1 l1.length c1 (fun _ => True) rfl rfl HO.out (Kd.C_below HR.out HB3.out) HB3.out (below_size HB3.out) ?_; intro w4 ho hb hg; have ho2 := ho; rw [show (l1.take (min l1.length (List.replicate ((l1.length : Int)).toNat false).length) ++ (List.replicate ((l1.length : Int)).toNat false).drop (min l1.length (List.replicate ((l1.length : Int)).toNat false).length)) = l1 by simp] at ho2; have HO4 := Aside0.mk ho2; have HB4 := Aside0.mk hb; have GG4 := Aside0.mk (blk_grown GG3.out hg (fun hh => by have h1 := (Kd.R_bound HO.out).1 _ hh.symm; obtain ⟨_, _, _, q, hq, cells, hc⟩ := h1; have h2 := GG3.out; rw [hc] at h2; injection h2 with h2; injection h2 with _ h3; subst h3; exact absurd (show 23 ∈ [4] from hq) (by decide))); clear ho ho2 hb hg HO; obtain ⟨Ao, co, eo⟩ := Kd.R_slice HO4.out; subst eo; have hx3 : w4.cell? ⟨w.heap.size, 0, none⟩ = some (.int .i64 a0_0) := (blk_cell GG4.out 0).trans rfl; have hcut := cut_from (P := Try.prog) 28 4 .i64 Try.underlying28 HI.out 1 HZ.out Ao l1.length co (s : Int) (by omega) (by omega); simp only [Int.toNat_natCast] at hcut; obtain ⟨B, hB⟩ : ∃ B, (if co = s then Ao else Ao.map (·.add (s * 1))) = B := ⟨_, rfl⟩; rw [hB] at hcut; have HBB := Aside0.mk hB; clear hB)
      | ((with_reducible refine gate_dst (N := 38) rfl ?_); refine Go.Proofs.YtamcpmfimicnjaaW.X.R_copyAt (enc := Value.bool) (h1 := fun _ => rfl) false w.heap.size rfl (.tmp 36) (.tmp 37) 28 28 4 rfl Try.underlying28 cells_write_bool.info1 Ao co l1 l3 s hsl B HBB.out _ l3.length _ (fun _ => True) rfl rfl HO4.out (Kd.C_below HR3.out HB4.out) HB4.out (below_size HB4.out) ?_; intro w5 ho hb _; have HO5 := Aside0.mk ho; have HB5 := Aside0.mk hb; clear ho hb))
    go_ret2
    exact ⟨_, rfl, HO5.out, HB5.out⟩
  · rw [if_neg c0] at h
    simp only [Option.some.injEq, Prod.mk.injEq] at h
    obtain ⟨rfl, rfl⟩ := h
    have b0 : (t2 != 0) = true := by simpa using c0
    have b1 : (t2 == 0) = false := by simpa using c0
    have hln3 : l3.length ≤ 9223372036854775807 := HR3.out.2.1
    clear c0
    go_enter Try.func49, Try.ntmps49
    go_wp2_with (first | (go_at_call 50; refine (cells_read_bool.calls k _ _ _ _ _ _ _ _ _ _ (Kd.C_below HR.out (below_alloc HB.out _)) HC.out HA1.out).mono ?_; rintro e w1 ⟨v0, rfl, _, hb1⟩; have HB1 := Aside0.mk (below_step (below_alloc HB.out _) hb1); clear hb1))
    go_ret2
    exact ⟨_, rfl, Kd.R_nil _ _ _ _ _, HB1.out⟩


end Go.Proofs.Ytamcpmfimicnjaa.P
