-- Written by the session's own turn of the kit's print program (wip/patch_print.py). Not trusted: Lean checks it.
import Derived.Test.YtmamkfnnoahcmaaPx0
import Derived.Test.YtmamkfnnoahcmaaPx2
namespace Go.Proofs.Ytmamkfnnoahcmaa.P
open Go.RowKit Go.Proofs.YtmamkfnnoahcmaaW.PrintWords Go.Proofs.YtmamkfnnoahcmaaW.PrintLast Go.Proofs.YtmamkfnnoahcmaaW.PrintMore
attribute [local go_sem] max2_int min2_int max_two min_two max_three min_three max_four min_four   -- for this text's walks alone
set_option linter.unusedVariables false
set_option linter.unusedSimpArgs false

/-! ### cells_read_uint16: function 66 -/
def cells_read_uint16.cut (l : List Int) (s n : Nat) : List Int := (l.drop s).take (min (l.length - s) n) ++ (List.replicate n (0 : Int)).drop (min (l.length - s) n)
def cells_read_uint16.f (k : Nat) (a0_0 a0_1 : Int) (l1 : List Int) (a2 a3 : Int) : Option (List Int × Int) :=
  (window_Right.f a0_0 a0_1).bind fun t1 => if t1 = true then (if (l1.length : Int) = a0_1 then (if a3 < 1 then some ([], 11) else
    (window_Holds.f k a0_0 a0_1 a2 a3).bind fun t2 => if t2 = true then (if 0 ≤ wrap64 (a2 - a0_0) then (if wrap64 (a2 - a0_0) ≤ (l1.length : Int) then (if a3.toNat * 2 ≤ 281474976710656 then
      some (cells_read_uint16.cut l1 (wrap64 (a2 - a0_0)).toNat a3.toNat, 0) else none) else none) else none) else some ([], 2)) else some ([], 11)) else some ([], 11)
theorem cells_read_uint16.mono : ∀ a0 a1 a2 a3 a4 k, LeO (cells_read_uint16.f k a0 a1 a2 a3 a4) (cells_read_uint16.f (k + 1) a0 a1 a2 a3 a4) := by
  intro a0 a1 a2 a3 a4 k
  unfold cells_read_uint16.f
  repeat' first
    | (with_reducible exact window_Holds.mono _ _ _ _ _)
    | (with_reducible exact LeO.refl _)
    | (with_reducible exact LeO.none _)
    | (with_reducible refine LeO.ite ?_ ?_)
    | (with_reducible refine LeO.bind ?_ (fun _ => ?_))
theorem cells_read_uint16.info : (Try.prog.info? 45).map (fun i => (i.zero, i.size, i.bytes)) = some (some (.int .u16 0), 1, 2) := by kernel_rfl
theorem cells_read_uint16.info1 : (Try.prog.info? 45).map (·.size) = some 1 := by kernel_rfl
set_option maxHeartbeats 4000000 in
set_option maxRecDepth 100000 in
theorem cells_read_uint16.calls (k : Nat) (a0_0 : Int) (a0_1 : Int) (A1 : Option Addr) (c1 : Nat) (l1 : List Int) (a2 : Int) (a3 : Int) (r1 : List Int) (r2 : Int) (w : World) (hr1 : Kd.C (Kd.int .u16) w A1 l1.length l1) (hc1 : l1.length ≤ c1) (h : cells_read_uint16.f k a0_0 a0_1 l1 a2 a3 = some (r1, r2)) :
    Calls Try.prog 66 #[.agg #[.int .i64 a0_0, .int .i64 a0_1], .slice A1 l1.length c1, .int .i64 a2, .int .i64 a3] w fun e w' => ∃ v0_ : Value, e = .returned (.tuple #[v0_, .int .i64 r2]) ∧ Kd.R (Kd.int .u16) 45 w' w.heap.size (fun _ => True) v0_ r1 ∧ Below w.heap.size w w' := by
  have hu1 := Try.underlying58
  have HR := Aside0.mk hr1
  have HC := Aside0.mk hc1
  clear hr1 hc1
  have HB := Aside0.mk (Below.refl w.heap.size w)
  unfold cells_read_uint16.f at h
  obtain ⟨t1, A1_, h⟩ := Option.bind_eq_some_iff.1 h
  have HA1 := Aside0.mk A1_
  clear A1_
  cases t1 with
  | false =>
    simp only [Bool.false_eq_true, if_false, Option.some.injEq, Prod.mk.injEq] at h
    obtain ⟨rfl, rfl⟩ := h
    go_enter Try.func66, Try.ntmps66
    go_wp2_with (first | (go_at_call 39; refine (window_Right.calls _ _ _ _ HA1.out).mono ?_; rintro e w1 ⟨rfl, hb1⟩; have HB1 := Aside0.mk hb1; have GG := Aside0.mk (blk_below (blk_new w (.cells #[.int .i64 a0_0, .int .i64 a0_1] 58)) hb1); clear hb1))
    go_ret2
    exact ⟨_, rfl, Kd.R_nil _ _ _ _ _, below_step (below_alloc HB.out _) HB1.out⟩
  | true =>
    simp only [if_true] at h
    by_cases c1 : (l1.length : Int) = a0_1
    · rw [if_pos c1] at h
      have b1 : ((l1.length : Int) != a0_1) = false := by simp [c1]
      have B1 := Aside0.mk c1
      clear c1
      by_cases c2 : a3 < 1
      · rw [if_pos c2] at h
        simp only [Option.some.injEq, Prod.mk.injEq] at h
        obtain ⟨rfl, rfl⟩ := h
        have b2 : decide (a3 < 1) = true := decide_eq_true c2
        clear c2
        go_enter Try.func66, Try.ntmps66
        go_wp2_with (first | (go_at_call 39; refine (window_Right.calls _ _ _ _ HA1.out).mono ?_; rintro e w1 ⟨rfl, hb1⟩; have HB1 := Aside0.mk hb1; have GG := Aside0.mk (blk_below (blk_new w (.cells #[.int .i64 a0_0, .int .i64 a0_1] 58)) hb1); clear hb1; have hx0 := blk_cell GG.out 0; have hx1 : w1.cell? ⟨w.heap.size, 1, none⟩ = some (.int .i64 a0_1) := (blk_cell GG.out 1).trans rfl))
        go_ret2
        exact ⟨_, rfl, Kd.R_nil _ _ _ _ _, below_step (below_alloc HB.out _) HB1.out⟩
      · rw [if_neg c2] at h
        have b2 : decide (a3 < 1) = false := decide_eq_false c2
        obtain ⟨t2, A2_, h⟩ := Option.bind_eq_some_iff.1 h
        have HA2 := Aside0.mk A2_
        clear A2_
        cases t2 with
        | false =>
          simp only [Bool.false_eq_true, if_false, Option.some.injEq, Prod.mk.injEq] at h
          obtain ⟨rfl, rfl⟩ := h
          clear c2
          go_enter Try.func66, Try.ntmps66
          go_wp2_with (first
            | (go_at_call 39; refine (window_Right.calls _ _ _ _ HA1.out).mono ?_; rintro e w1 ⟨rfl, hb1⟩; have HB1 := Aside0.mk hb1; have GG := Aside0.mk (blk_below (blk_new w (.cells #[.int .i64 a0_0, .int .i64 a0_1] 58)) hb1); clear hb1; have hx0 : w1.cell? ⟨w.heap.size, 0, none⟩ = some (.int .i64 a0_0) := (blk_cell GG.out 0).trans rfl; have hx1 : w1.cell? ⟨w.heap.size, 1, none⟩ = some (.int .i64 a0_1) := (blk_cell GG.out 1).trans rfl)
            | (go_at_call 42; refine (window_Holds.calls k _ _ _ _ _ _ HA2.out).mono ?_; rintro e w2 ⟨rfl, hb2⟩; have HB2 := Aside0.mk hb2; clear hb2))
          go_ret2
          exact ⟨_, rfl, Kd.R_nil _ _ _ _ _, below_step (below_step (below_alloc HB.out _) HB1.out) HB2.out⟩
        | true =>
          simp only [if_true] at h
          have hs0 : 0 ≤ wrap64 (a2 - a0_0) := by
            apply Classical.byContradiction; intro hh; rw [if_neg hh] at h; cases h
          rw [if_pos hs0] at h
          have hs1 : wrap64 (a2 - a0_0) ≤ (l1.length : Int) := by
            apply Classical.byContradiction; intro hh; rw [if_neg hh] at h; cases h
          rw [if_pos hs1] at h
          have hs2 : a3.toNat * 2 ≤ 281474976710656 := by
            apply Classical.byContradiction; intro hh; rw [if_neg hh] at h; cases h
          rw [if_pos hs2] at h
          simp only [Option.some.injEq, Prod.mk.injEq] at h
          obtain ⟨rfl, rfl⟩ := h
          obtain ⟨s, hs⟩ : ∃ s : Nat, wrap64 (a2 - a0_0) = (s : Int) := ⟨(wrap64 (a2 - a0_0)).toNat, by omega⟩
          have es : (wrap64 (a2 - a0_0)).toNat = s := by omega
          have e64 : IntKind.i64.wrap (a2 - a0_0) = (s : Int) := (i64_w _).trans hs
          rw [es]
          have hsl : s ≤ l1.length := by omega
          have HS := Aside0.mk hs
          have HC2 := Aside0.mk (show 1 ≤ a3 by omega)
          have HL2 := Aside0.mk hs2
          have hln : l1.length ≤ 9223372036854775807 := HR.out.2.1
          obtain ⟨i0, hi0, _, hsz0, _⟩ := info_parts cells_read_uint16.info
          have hcut := cut_from (P := Try.prog) 39 45 .i64 Try.underlying39 hi0 1 hsz0 A1 l1.length c1 (s : Int) (by omega) (by omega)
          have hdr := Kd.C_drop HR.out hsl HC.out
          rw [List.length_drop] at hdr
          simp only [Int.toNat_natCast] at hcut
          change Kd.C (Kd.int .u16) w (if c1 = s then A1 else A1.map (·.add (s * 1))) (l1.length - s) (l1.drop s) at hdr
          generalize (if c1 = s then A1 else A1.map (·.add (s * 1))) = B at hcut hdr
          have HD := Aside0.mk hdr
          clear hs es hs0 hs1 hs2 c2 hdr hi0 hsz0
          go_enter Try.func66, Try.ntmps66
          go_wp2_with (first
            | (go_at_call 39; refine (window_Right.calls _ _ _ _ HA1.out).mono ?_; rintro e w1 ⟨rfl, hb1⟩; have HB1 := Aside0.mk hb1; have GG := Aside0.mk (blk_below (blk_new w (.cells #[.int .i64 a0_0, .int .i64 a0_1] 58)) hb1); clear hb1; have hx0 : w1.cell? ⟨w.heap.size, 0, none⟩ = some (.int .i64 a0_0) := (blk_cell GG.out 0).trans rfl; have hx1 : w1.cell? ⟨w.heap.size, 1, none⟩ = some (.int .i64 a0_1) := (blk_cell GG.out 1).trans rfl)
            | (go_at_call 42; refine (window_Holds.calls k _ _ _ _ _ _ HA2.out).mono ?_; rintro e w2 ⟨rfl, hb2⟩; have HB2 := Aside0.mk (below_step (below_step (below_alloc HB.out _) HB1.out) hb2); have GG2 := Aside0.mk (blk_below GG.out hb2); clear hb2)
            | ((with_reducible refine gate_dst (N := 33) rfl ?_); refine Kd.R_make (Kd.int .u16) w.heap.size 45 rfl (N := 33) rfl 39 _ _ rfl a3 rfl rfl Try.underlying39 (.int .u16 0) 2 cells_read_uint16.info rfl (by decide) (by omega) (0 : Int) (ok := fun _ => True) (okp := fun _ => True) rfl (fun _ hk => hk) trivial ?h0 HL2.out HB2.out (below_size HB2.out) ?_; (case h0 => have := HC2.out; omega); intro v1 w3 ho hb hg _; have HO := Aside0.mk ho; have HB3 := Aside0.mk hb; have GG3 := Aside0.mk (blk_grown GG2.out hg (by simp)); clear ho hb hg; have hx3 : w3.cell? ⟨w.heap.size, 0, none⟩ = some (.int .i64 a0_0) := (blk_cell GG3.out 0).trans rfl)
            | ((with_reducible refine gate_dst (N := 41) rfl ?_); refine Kd.R_copy (enc := (Value.int .u16)) (h1 := fun _ => rfl) (0 : Int) w.heap.size rfl (.tmp 34) (.tmp 40) 39 39 45 rfl Try.underlying39 cells_read_uint16.info1 v1 _ (l1.drop s) B (l1.length - s) (c1 - s) (fun _ => True) rfl rfl HO.out (Kd.C_below HD.out HB3.out) HB3.out (below_size HB3.out) ?_; intro w4 ho hb _; simp only [List.length_replicate] at ho ⊢; have HO2 := Aside0.mk ho; have HB4 := Aside0.mk hb; clear ho hb))
          go_ret2
          exact ⟨_, rfl, HO2.out, HB4.out⟩
    · rw [if_neg c1] at h
      have b1 : ((l1.length : Int) != a0_1) = true := by simp [c1]
      clear c1
      simp only [Option.some.injEq, Prod.mk.injEq] at h
      obtain ⟨rfl, rfl⟩ := h
      go_enter Try.func66, Try.ntmps66
      go_wp2_with (first | (go_at_call 39; refine (window_Right.calls _ _ _ _ HA1.out).mono ?_; rintro e w1 ⟨rfl, hb1⟩; have HB1 := Aside0.mk hb1; have GG := Aside0.mk (blk_below (blk_new w (.cells #[.int .i64 a0_0, .int .i64 a0_1] 58)) hb1); clear hb1; have hx0 : w1.cell? ⟨w.heap.size, 0, none⟩ = some (.int .i64 a0_0) := (blk_cell GG.out 0).trans rfl; have hx1 : w1.cell? ⟨w.heap.size, 1, none⟩ = some (.int .i64 a0_1) := (blk_cell GG.out 1).trans rfl))
      go_ret2
      exact ⟨_, rfl, Kd.R_nil _ _ _ _ _, below_step (below_alloc HB.out _) HB1.out⟩

/-! ### cells_Words: function 50 -/
def cells_Words.f (k : Nat) (a0_0 : Int) (a0_1 : Int) (l1 : List Int) (a2 : Int) (a3 : Int) : Option (List Int × Int) := (cells_read_uint16.f k a0_0 a0_1 l1 a2 a3).bind fun bt114 => (some (bt114.1, bt114.2))
theorem cells_Words.mono : ∀ a0 a1 a2 a3 a4 k, LeO (cells_Words.f k a0 a1 a2 a3 a4) (cells_Words.f (k + 1) a0 a1 a2 a3 a4) := by
 intro a0 a1 a2 a3 a4 k
 unfold cells_Words.f
 repeat' first
   | (with_reducible exact cells_read_uint16.mono _ _ _ _ _ _)
   | (with_reducible exact LeO.refl _)
   | (with_reducible exact LeO.none _)
   | (with_reducible refine LeO.ite ?_ ?_)
   | (with_reducible refine LeO.bind ?_ (fun _ => ?_))
   | exact cells_read_uint16.mono _ _ _ _ _ _
   | exact LeO.none _
   | refine LeO.ite ?_ ?_
   | refine LeO.bind ?_ (fun _ => ?_)
set_option maxHeartbeats 8000000 in
set_option maxRecDepth 100000 in
theorem cells_Words.calls (k : Nat) (a0_0 : Int) (a0_1 : Int) (A1 : Option Addr) (c1 : Nat) (l1 : List Int) (a2 : Int) (a3 : Int) (r1 : List Int) (r2 : Int) (w : World) (hr1 : Kd.C (Kd.int .u16) w A1 l1.length l1) (hc1 : l1.length ≤ c1) (h : cells_Words.f k a0_0 a0_1 l1 a2 a3 = some (r1, r2)) :
  Calls Try.prog 50 #[.agg #[.int .i64 a0_0, .int .i64 a0_1], .slice A1 l1.length c1, .int .i64 a2, .int .i64 a3] w fun e w' => ∃ v0_ : Value, e = .returned (.tuple #[v0_, .int .i64 r2]) ∧ Kd.R (Kd.int .u16) 45 w' w.heap.size (fun _ => True) v0_ r1 ∧ Below w.heap.size w w' := by
 have hu58 := Try.underlying58
 have HR1 := Aside0.mk hr1
 have HC1 := Aside0.mk hc1
 clear hr1 hc1
 have HB := Aside0.mk (Below.refl w.heap.size w)
 have H : ((cells_read_uint16.f k a0_0 a0_1 l1 a2 a3).bind fun bt114 => (some (bt114.1, bt114.2))) = some (r1, r2) := h
 clear h
 replace H := Option.bind_eq_some_iff.mp H
 obtain ⟨⟨t114, t117⟩, A50, H⟩ := H
 replace H : (some (t114, t117)) = some (r1, r2) := H
 have A5 := Aside0.mk A50
 clear A50
 simp only [Option.some.injEq, Prod.mk.injEq] at H
 obtain ⟨rfl, rfl⟩ := H
 go_enter Try.func50, Try.ntmps50
 go_wp2_with (first | ((with_reducible refine gate_dst (N := 4) rfl ?_); refine box_event ?hg (N := 4) ?hd (cs := #[.int .i64 a0_0, .int .i64 a0_1]) (t := 58) ?hr ?_; (case hd => rfl); (case hg => rfl); (case hr => first | (go_simp; done) | (go_simp; rfl)); intro gb113 hg w6 hbox hb; have n0_ := Aside0.mk (below_step (by repeat (first | (with_reducible first | exact HB.out | apply below_alloc | apply pw_below_drewN | apply below_drew1) | exact HB.out)) hb); have n1_ := Aside0.mk (hbox); have n2_ := Aside0.mk ((by rw [hg]; exact (below_size (by repeat (first | (with_reducible first | exact HB.out | apply below_alloc | apply pw_below_drewN | apply below_drew1) | exact HB.out))) : w.heap.size ≤ gb113)); have n3_ := Aside0.mk ((by rw [hg]; exact (below_size (by repeat (first | (with_reducible first | exact HB.out | apply below_alloc | apply pw_below_drewN | apply below_drew1) | exact HB.out))) : w.heap.size ≤ gb113)); clear HB; have HB := n0_; have BK113 := n1_; have GW113 := n2_; have GE113 := n3_; clear n0_ n1_ n2_ n3_; clear hb hbox hg; have hcz7_0 : w6.cell? ⟨gb113, 0, none⟩ = some (.int .i64 a0_0) := (blk_cell BK113.out 0).trans rfl; have hcz7_1 : w6.cell? ⟨gb113, 1, none⟩ = some (.int .i64 a0_1) := (blk_cell BK113.out 1).trans rfl; have hfz7_0 := blk_frozen BK113.out 0; have hfz7_1 := blk_frozen BK113.out 1) | ((with_reducible refine gate_callee (f := 66) rfl ?_); refine goesL_ (some 14) rfl rfl Try.func66 (by kernel_rfl) rfl #[.agg #[.int .i64 a0_0, .int .i64 a0_1], .slice A1 l1.length c1, .int .i64 a2, .int .i64 a3] rfl (by (try simp only [List.map_toArray, List.map_cons, List.map_nil]); first | done | rfl | (simp only [List.length_drop, List.length_take]; rfl)) ?_; (with_reducible refine (cells_read_uint16.calls k a0_0 a0_1 _ _ l1 a2 a3 t114 t117 _ ?side1 ?side2 A5.out).mono ?_); (case side1 => repeat (first | exact (Kd.C_below HR1.out HB.out) | (with_reducible refine Kd.C_alloc ?_ _) | (with_reducible refine Kd.C_drewN ?_ _) | (with_reducible refine Kd.C_drew ?_))); (case side2 => exact HC1.out); rintro e w8 ⟨v115, rfl, ho0, hb⟩; refine ⟨_, rfl, ?_⟩; have n0_ := Aside0.mk (Kd.R_lower ho0 (below_size (by repeat (first | (with_reducible first | exact HB.out | apply below_alloc | apply pw_below_drewN | apply below_drew1 | refine below_set ?_ GE113.out) | exact HB.out)))); have n1_ := Aside0.mk (blk_below (g := gb113) (o := .cells #[.int .i64 a0_0, .int .i64 a0_1] 58 (0, 0)) (by (with_reducible repeat (first | refine blk_drewN ?_ _ | refine blk_drew ?_ | refine blk_alloc ?_ _)); exact BK113.out) hb); have n2_ := Aside0.mk (below_step (by repeat (first | (with_reducible first | exact HB.out | apply below_alloc | apply pw_below_drewN | apply below_drew1 | refine below_set ?_ GE113.out) | exact HB.out)) hb); clear BK113; clear HB; have HO116 := n0_; have BK113 := n1_; have HB := n2_; clear n0_ n1_ n2_; (try clear hb); (try clear hb2); (try clear hk); (try clear hi); (try clear ho0)))
 go_ret2
 exact ⟨_, by first | rfl | (simp [errW_none, errW_some] <;> rfl) | (simp [*, errW_none, errW_some] <;> rfl), by (with_reducible repeat (first | apply Kd.R_alloc | apply Kd.R_drewN | apply Kd.R_drew)); exact HO116.out, by repeat (first | (with_reducible first | exact HB.out | apply below_alloc | apply pw_below_drewN | apply below_drew1 | refine below_set ?_ GE113.out) | exact HB.out)⟩

/-! ### cells_write_uint16: function 68 -/
def cells_write_uint16.put (l with_ : List Int) (s : Nat) : List Int := l.take s ++ with_.take (min with_.length (l.length - s)) ++ l.drop (s + min with_.length (l.length - s))
def cells_write_uint16.f (k : Nat) (a0_0 a0_1 : Int) (l1 : List Int) (a2 : Int) (l3 : List Int) : Option (List Int × Int) :=
  (cells_read_uint16.f k a0_0 a0_1 l1 a2 (l3.length : Int)).bind fun bt => if bt.2 = 0 then (if 0 ≤ wrap64 (a2 - a0_0) then (if wrap64 (a2 - a0_0) ≤ (l1.length : Int) then (if l1.length * 2 ≤ 281474976710656 then
    some (cells_write_uint16.put l1 l3 (wrap64 (a2 - a0_0)).toNat, 0) else none) else none) else none) else some ([], bt.2)
theorem cells_write_uint16.mono : ∀ a0 a1 a2 a3 a4 k, LeO (cells_write_uint16.f k a0 a1 a2 a3 a4) (cells_write_uint16.f (k + 1) a0 a1 a2 a3 a4) := by
  intro a0 a1 a2 a3 a4 k
  unfold cells_write_uint16.f
  repeat' first
    | (with_reducible exact cells_read_uint16.mono _ _ _ _ _ _)
    | (with_reducible exact LeO.refl _)
    | (with_reducible exact LeO.none _)
    | (with_reducible refine LeO.ite ?_ ?_)
    | (with_reducible refine LeO.bind ?_ (fun _ => ?_))
theorem cells_write_uint16.info : (Try.prog.info? 45).map (fun i => (i.zero, i.size, i.bytes)) = some (some (.int .u16 0), 1, 2) := by kernel_rfl
theorem cells_write_uint16.info1 : (Try.prog.info? 45).map (·.size) = some 1 := by kernel_rfl
set_option maxHeartbeats 4000000 in
set_option maxRecDepth 100000 in
theorem cells_write_uint16.calls (k : Nat) (a0_0 : Int) (a0_1 : Int) (A1 : Option Addr) (c1 : Nat) (l1 : List Int) (a2 : Int) (A3 : Option Addr) (c3 : Nat) (l3 : List Int) (r1 : List Int) (r2 : Int) (w : World) (hr1 : Kd.C (Kd.int .u16) w A1 l1.length l1) (hc1 : l1.length ≤ c1) (hr3 : Kd.C (Kd.int .u16) w A3 l3.length l3) (hc3 : l3.length ≤ c3) (h : cells_write_uint16.f k a0_0 a0_1 l1 a2 l3 = some (r1, r2)) :
    Calls Try.prog 68 #[.agg #[.int .i64 a0_0, .int .i64 a0_1], .slice A1 l1.length c1, .int .i64 a2, .slice A3 l3.length c3] w fun e w' => ∃ v0_ : Value, e = .returned (.tuple #[v0_, .int .i64 r2]) ∧ Kd.R (Kd.int .u16) 45 w' w.heap.size (fun _ => True) v0_ r1 ∧ Below w.heap.size w w' := by
  have hu1 := Try.underlying58
  have HR := Aside0.mk hr1
  have HC := Aside0.mk hc1
  have HR3 := Aside0.mk hr3
  have HC3 := Aside0.mk hc3
  clear hr1 hc1 hr3 hc3
  have HB := Aside0.mk (Below.refl w.heap.size w)
  unfold cells_write_uint16.f at h
  obtain ⟨⟨t1, t2⟩, A1_, h⟩ := Option.bind_eq_some_iff.1 h
  have HA1 := Aside0.mk A1_
  clear A1_
  simp only at h
  by_cases c0 : t2 = 0
  · subst c0
    simp only [if_true] at h
    have hs0 : 0 ≤ wrap64 (a2 - a0_0) := by
      apply Classical.byContradiction; intro hh; rw [if_neg hh] at h; cases h
    rw [if_pos hs0] at h
    have hs1 : wrap64 (a2 - a0_0) ≤ (l1.length : Int) := by
      apply Classical.byContradiction; intro hh; rw [if_neg hh] at h; cases h
    rw [if_pos hs1] at h
    have hs2 : l1.length * 2 ≤ 281474976710656 := by
      apply Classical.byContradiction; intro hh; rw [if_neg hh] at h; cases h
    rw [if_pos hs2] at h
    simp only [Option.some.injEq, Prod.mk.injEq] at h
    obtain ⟨rfl, rfl⟩ := h
    obtain ⟨s, hs⟩ : ∃ s : Nat, wrap64 (a2 - a0_0) = (s : Int) := ⟨(wrap64 (a2 - a0_0)).toNat, by omega⟩
    have es : (wrap64 (a2 - a0_0)).toNat = s := by omega
    have e64 : IntKind.i64.wrap (a2 - a0_0) = (s : Int) := (i64_w _).trans hs
    rw [es]
    have hsl : s ≤ l1.length := by omega
    have HL2 := Aside0.mk hs2
    have hln : l1.length ≤ 9223372036854775807 := HR.out.2.1
    have hln3 : l3.length ≤ 9223372036854775807 := HR3.out.2.1
    obtain ⟨i0, hi0, _, hsz0, _⟩ := info_parts cells_write_uint16.info
    have HI := Aside0.mk hi0
    have HZ := Aside0.mk hsz0
    clear hs es hs0 hs1 hs2 hi0 hsz0
    go_enter Try.func68, Try.ntmps68
    go_wp2_with (first
      | (go_at_call 66; refine (cells_read_uint16.calls k _ _ _ _ _ _ _ _ _ _ (Kd.C_below HR.out (below_alloc HB.out _)) HC.out HA1.out).mono ?_; rintro e w1 ⟨v0, rfl, _, hb1⟩; have HB1 := Aside0.mk (below_step (below_alloc HB.out _) hb1); have GG := Aside0.mk (blk_below (blk_new w (.cells #[.int .i64 a0_0, .int .i64 a0_1] 58)) hb1); clear hb1)
      | ((with_reducible refine gate_dst (N := 27) rfl ?_); refine Kd.R_make (Kd.int .u16) w.heap.size 45 rfl (N := 27) rfl 39 _ _ rfl (l1.length : Int) rfl rfl Try.underlying39 (.int .u16 0) 2 cells_write_uint16.info rfl (by decide) (by omega) (0 : Int) (ok := fun _ => True) (okp := fun _ => True) rfl (fun _ hk => hk) trivial (by omega) HL2.out HB1.out (below_size HB1.out) ?_; intro v1 w3 ho hb hg _; have HO := Aside0.mk ho; have HB3 := Aside0.mk hb; have GG3 := Aside0.mk (blk_grown GG.out hg (by simp)); clear ho hb hg)
      | ((with_reducible refine gate_dst (N := 30) rfl ?_); refine Kd.R_copy (enc := (Value.int .u16)) (h1 := fun _ => rfl) (0 : Int) w.heap.size rfl (.tmp 28) (.tmp 29) 39 39 45 rfl Try.underlying39 cells_write_uint16.info1 v1 _ l1 A1 l1.length c1 (fun _ => True) rfl rfl HO.out (Kd.C_below HR.out HB3.out) HB3.out (below_size HB3.out) ?_; intro w4 ho hb hg; have ho2 := ho; rw [show (l1.take (min l1.length (List.replicate ((l1.length : Int)).toNat (0 : Int)).length) ++ (List.replicate ((l1.length : Int)).toNat (0 : Int)).drop (min l1.length (List.replicate ((l1.length : Int)).toNat (0 : Int)).length)) = l1 by simp] at ho2; have HO4 := Aside0.mk ho2; have HB4 := Aside0.mk hb; have GG4 := Aside0.mk (blk_grown GG3.out hg (fun hh => by have h1 := (Kd.R_bound HO.out).1 _ hh.symm; obtain ⟨_, _, _, q, hq, cells, hc⟩ := h1; have h2 := GG3.out; rw [hc] at h2; injection h2 with h2; injection h2 with _ h3; subst h3; exact absurd (show 58 ∈ [45] from hq) (by decide))); clear ho ho2 hb hg HO; obtain ⟨Ao, co, eo⟩ := Kd.R_slice HO4.out; subst eo; have hx3 : w4.cell? ⟨w.heap.size, 0, none⟩ = some (.int .i64 a0_0) := (blk_cell GG4.out 0).trans rfl; have hcut := cut_from (P := Try.prog) 39 45 .i64 Try.underlying39 HI.out 1 HZ.out Ao l1.length co (s : Int) (by omega) (by omega); simp only [Int.toNat_natCast] at hcut; obtain ⟨B, hB⟩ : ∃ B, (if co = s then Ao else Ao.map (·.add (s * 1))) = B := ⟨_, rfl⟩; rw [hB] at hcut; have HBB := Aside0.mk hB; clear hB)
      | ((with_reducible refine gate_dst (N := 38) rfl ?_); refine Go.Proofs.YtmamkfnnoahcmaaW.X.R_copyAt (enc := (Value.int .u16)) (h1 := fun _ => rfl) (0 : Int) w.heap.size rfl (.tmp 36) (.tmp 37) 39 39 45 rfl Try.underlying39 cells_write_uint16.info1 Ao co l1 l3 s hsl B HBB.out _ l3.length _ (fun _ => True) rfl rfl HO4.out (Kd.C_below HR3.out HB4.out) HB4.out (below_size HB4.out) ?_; intro w5 ho hb _; have HO5 := Aside0.mk ho; have HB5 := Aside0.mk hb; clear ho hb))
    go_ret2
    exact ⟨_, rfl, HO5.out, HB5.out⟩
  · rw [if_neg c0] at h
    simp only [Option.some.injEq, Prod.mk.injEq] at h
    obtain ⟨rfl, rfl⟩ := h
    have b0 : (t2 != 0) = true := by simpa using c0
    have b1 : (t2 == 0) = false := by simpa using c0
    have hln3 : l3.length ≤ 9223372036854775807 := HR3.out.2.1
    clear c0
    go_enter Try.func68, Try.ntmps68
    go_wp2_with (first | (go_at_call 66; refine (cells_read_uint16.calls k _ _ _ _ _ _ _ _ _ _ (Kd.C_below HR.out (below_alloc HB.out _)) HC.out HA1.out).mono ?_; rintro e w1 ⟨v0, rfl, _, hb1⟩; have HB1 := Aside0.mk (below_step (below_alloc HB.out _) hb1); clear hb1))
    go_ret2
    exact ⟨_, rfl, Kd.R_nil _ _ _ _ _, HB1.out⟩

/-! ### cells_SetWords: function 52 -/
def cells_SetWords.f (k : Nat) (a0_0 : Int) (a0_1 : Int) (l1 : List Int) (a2 : Int) (l3 : List Int) : Option (List Int × Int) := (cells_write_uint16.f k a0_0 a0_1 l1 a2 l3).bind fun bt119 => (some (bt119.1, bt119.2))
theorem cells_SetWords.mono : ∀ a0 a1 a2 a3 a4 k, LeO (cells_SetWords.f k a0 a1 a2 a3 a4) (cells_SetWords.f (k + 1) a0 a1 a2 a3 a4) := by
 intro a0 a1 a2 a3 a4 k
 unfold cells_SetWords.f
 repeat' first
   | (with_reducible exact cells_write_uint16.mono _ _ _ _ _ _)
   | (with_reducible exact LeO.refl _)
   | (with_reducible exact LeO.none _)
   | (with_reducible refine LeO.ite ?_ ?_)
   | (with_reducible refine LeO.bind ?_ (fun _ => ?_))
   | exact cells_write_uint16.mono _ _ _ _ _ _
   | exact LeO.none _
   | refine LeO.ite ?_ ?_
   | refine LeO.bind ?_ (fun _ => ?_)
set_option maxHeartbeats 8000000 in
set_option maxRecDepth 100000 in
theorem cells_SetWords.calls (k : Nat) (a0_0 : Int) (a0_1 : Int) (A1 : Option Addr) (c1 : Nat) (l1 : List Int) (a2 : Int) (A3 : Option Addr) (c3 : Nat) (l3 : List Int) (r1 : List Int) (r2 : Int) (w : World) (hr1 : Kd.C (Kd.int .u16) w A1 l1.length l1) (hc1 : l1.length ≤ c1) (hr3 : Kd.C (Kd.int .u16) w A3 l3.length l3) (hc3 : l3.length ≤ c3) (h : cells_SetWords.f k a0_0 a0_1 l1 a2 l3 = some (r1, r2)) :
  Calls Try.prog 52 #[.agg #[.int .i64 a0_0, .int .i64 a0_1], .slice A1 l1.length c1, .int .i64 a2, .slice A3 l3.length c3] w fun e w' => ∃ v0_ : Value, e = .returned (.tuple #[v0_, .int .i64 r2]) ∧ Kd.R (Kd.int .u16) 45 w' w.heap.size (fun _ => True) v0_ r1 ∧ Below w.heap.size w w' := by
 have hu58 := Try.underlying58
 have HR1 := Aside0.mk hr1
 have HC1 := Aside0.mk hc1
 clear hr1 hc1
 have HR3 := Aside0.mk hr3
 have HC3 := Aside0.mk hc3
 clear hr3 hc3
 have HB := Aside0.mk (Below.refl w.heap.size w)
 have H : ((cells_write_uint16.f k a0_0 a0_1 l1 a2 l3).bind fun bt119 => (some (bt119.1, bt119.2))) = some (r1, r2) := h
 clear h
 replace H := Option.bind_eq_some_iff.mp H
 obtain ⟨⟨t119, t122⟩, A50, H⟩ := H
 replace H : (some (t119, t122)) = some (r1, r2) := H
 have A5 := Aside0.mk A50
 clear A50
 simp only [Option.some.injEq, Prod.mk.injEq] at H
 obtain ⟨rfl, rfl⟩ := H
 go_enter Try.func52, Try.ntmps52
 go_wp2_with (first | ((with_reducible refine gate_dst (N := 4) rfl ?_); refine box_event ?hg (N := 4) ?hd (cs := #[.int .i64 a0_0, .int .i64 a0_1]) (t := 58) ?hr ?_; (case hd => rfl); (case hg => rfl); (case hr => first | (go_simp; done) | (go_simp; rfl)); intro gb118 hg w6 hbox hb; have n0_ := Aside0.mk (below_step (by repeat (first | (with_reducible first | exact HB.out | apply below_alloc | apply pw_below_drewN | apply below_drew1) | exact HB.out)) hb); have n1_ := Aside0.mk (hbox); have n2_ := Aside0.mk ((by rw [hg]; exact (below_size (by repeat (first | (with_reducible first | exact HB.out | apply below_alloc | apply pw_below_drewN | apply below_drew1) | exact HB.out))) : w.heap.size ≤ gb118)); have n3_ := Aside0.mk ((by rw [hg]; exact (below_size (by repeat (first | (with_reducible first | exact HB.out | apply below_alloc | apply pw_below_drewN | apply below_drew1) | exact HB.out))) : w.heap.size ≤ gb118)); clear HB; have HB := n0_; have BK118 := n1_; have GW118 := n2_; have GE118 := n3_; clear n0_ n1_ n2_ n3_; clear hb hbox hg; have hcz7_0 : w6.cell? ⟨gb118, 0, none⟩ = some (.int .i64 a0_0) := (blk_cell BK118.out 0).trans rfl; have hcz7_1 : w6.cell? ⟨gb118, 1, none⟩ = some (.int .i64 a0_1) := (blk_cell BK118.out 1).trans rfl; have hfz7_0 := blk_frozen BK118.out 0; have hfz7_1 := blk_frozen BK118.out 1) | ((with_reducible refine gate_callee (f := 68) rfl ?_); refine goesL_ (some 14) rfl rfl Try.func68 (by kernel_rfl) rfl #[.agg #[.int .i64 a0_0, .int .i64 a0_1], .slice A1 l1.length c1, .int .i64 a2, .slice A3 l3.length c3] rfl (by (try simp only [List.map_toArray, List.map_cons, List.map_nil]); first | done | rfl | (simp only [List.length_drop, List.length_take]; rfl)) ?_; (with_reducible refine (cells_write_uint16.calls k a0_0 a0_1 _ _ l1 a2 _ _ l3 t119 t122 _ ?side1 ?side2 ?side3 ?side4 A5.out).mono ?_); (case side1 => repeat (first | exact (Kd.C_below HR1.out HB.out) | (with_reducible refine Kd.C_alloc ?_ _) | (with_reducible refine Kd.C_drewN ?_ _) | (with_reducible refine Kd.C_drew ?_))); (case side2 => exact HC1.out); (case side3 => repeat (first | exact (Kd.C_below HR3.out HB.out) | (with_reducible refine Kd.C_alloc ?_ _) | (with_reducible refine Kd.C_drewN ?_ _) | (with_reducible refine Kd.C_drew ?_))); (case side4 => exact HC3.out); rintro e w8 ⟨v120, rfl, ho0, hb⟩; refine ⟨_, rfl, ?_⟩; have n0_ := Aside0.mk (Kd.R_lower ho0 (below_size (by repeat (first | (with_reducible first | exact HB.out | apply below_alloc | apply pw_below_drewN | apply below_drew1 | refine below_set ?_ GE118.out) | exact HB.out)))); have n1_ := Aside0.mk (blk_below (g := gb118) (o := .cells #[.int .i64 a0_0, .int .i64 a0_1] 58 (0, 0)) (by (with_reducible repeat (first | refine blk_drewN ?_ _ | refine blk_drew ?_ | refine blk_alloc ?_ _)); exact BK118.out) hb); have n2_ := Aside0.mk (below_step (by repeat (first | (with_reducible first | exact HB.out | apply below_alloc | apply pw_below_drewN | apply below_drew1 | refine below_set ?_ GE118.out) | exact HB.out)) hb); clear BK118; clear HB; have HO121 := n0_; have BK118 := n1_; have HB := n2_; clear n0_ n1_ n2_; (try clear hb); (try clear hb2); (try clear hk); (try clear hi); (try clear ho0)))
 go_ret2
 exact ⟨_, by first | rfl | (simp [errW_none, errW_some] <;> rfl) | (simp [*, errW_none, errW_some] <;> rfl), by (with_reducible repeat (first | apply Kd.R_alloc | apply Kd.R_drewN | apply Kd.R_drew)); exact HO121.out, by repeat (first | (with_reducible first | exact HB.out | apply below_alloc | apply pw_below_drewN | apply below_drew1 | refine below_set ?_ GE118.out) | exact HB.out)⟩

/-! ### cells_Mask: function 54 -/
def cells_Mask.f (a0 : Int) (a1 : Int) (a2 : Int) : Option (Int) := some (Go.bits .or .u16 (Go.bits .and .u16 a0 a1) (Go.bits .andNot .u16 a2 a1))
set_option maxHeartbeats 8000000 in
set_option maxRecDepth 100000 in
theorem cells_Mask.calls (a0 : Int) (a1 : Int) (a2 : Int) (r : Int) (w : World) (h : cells_Mask.f a0 a1 a2 = some r) :
  Calls Try.prog 54 #[.int .u16 a0, .int .u16 a1, .int .u16 a2] w fun e w' => e = .returned (.int .u16 r) ∧ Drawn0 w w' := by
 have H : (some (Go.bits .or .u16 (Go.bits .and .u16 a0 a1) (Go.bits .andNot .u16 a2 a1))) = some r := h
 clear h
 obtain rfl := Option.some.inj H
 go_enter Try.func54, Try.ntmps54
 go_wp2
 go_ret
 exact ⟨by first | rfl | (simp; done) | (simp [*]; done), by repeat (first | exact Drawn0.refl _ | apply Drawn0.step)⟩

/-! ### cells_read_bool: function 69 -/
def cells_read_bool.cut (l : List Bool) (s n : Nat) : List Bool := (l.drop s).take (min (l.length - s) n) ++ (List.replicate n false).drop (min (l.length - s) n)
def cells_read_bool.f (k : Nat) (a0_0 a0_1 : Int) (l1 : List Bool) (a2 a3 : Int) : Option (List Bool × Int) :=
  (window_Right.f a0_0 a0_1).bind fun t1 => if t1 = true then (if (l1.length : Int) = a0_1 then (if a3 < 1 then some ([], 11) else
    (window_Holds.f k a0_0 a0_1 a2 a3).bind fun t2 => if t2 = true then (if 0 ≤ wrap64 (a2 - a0_0) then (if wrap64 (a2 - a0_0) ≤ (l1.length : Int) then (if a3.toNat * 1 ≤ 281474976710656 then
      some (cells_read_bool.cut l1 (wrap64 (a2 - a0_0)).toNat a3.toNat, 0) else none) else none) else none) else some ([], 2)) else some ([], 11)) else some ([], 11)
theorem cells_read_bool.mono : ∀ a0 a1 a2 a3 a4 k, LeO (cells_read_bool.f k a0 a1 a2 a3 a4) (cells_read_bool.f (k + 1) a0 a1 a2 a3 a4) := by
  intro a0 a1 a2 a3 a4 k
  unfold cells_read_bool.f
  repeat' first
    | (with_reducible exact window_Holds.mono _ _ _ _ _)
    | (with_reducible exact LeO.refl _)
    | (with_reducible exact LeO.none _)
    | (with_reducible refine LeO.ite ?_ ?_)
    | (with_reducible refine LeO.bind ?_ (fun _ => ?_))
theorem cells_read_bool.info : (Try.prog.info? 4).map (fun i => (i.zero, i.size, i.bytes)) = some (some (.bool false), 1, 1) := by kernel_rfl
theorem cells_read_bool.info1 : (Try.prog.info? 4).map (·.size) = some 1 := by kernel_rfl
set_option maxHeartbeats 4000000 in
set_option maxRecDepth 100000 in
theorem cells_read_bool.calls (k : Nat) (a0_0 : Int) (a0_1 : Int) (A1 : Option Addr) (c1 : Nat) (l1 : List Bool) (a2 : Int) (a3 : Int) (r1 : List Bool) (r2 : Int) (w : World) (hr1 : Kd.C Kd.bool w A1 l1.length l1) (hc1 : l1.length ≤ c1) (h : cells_read_bool.f k a0_0 a0_1 l1 a2 a3 = some (r1, r2)) :
    Calls Try.prog 69 #[.agg #[.int .i64 a0_0, .int .i64 a0_1], .slice A1 l1.length c1, .int .i64 a2, .int .i64 a3] w fun e w' => ∃ v0_ : Value, e = .returned (.tuple #[v0_, .int .i64 r2]) ∧ Kd.R Kd.bool 4 w' w.heap.size (fun _ => True) v0_ r1 ∧ Below w.heap.size w w' := by
  have hu1 := Try.underlying58
  have HR := Aside0.mk hr1
  have HC := Aside0.mk hc1
  clear hr1 hc1
  have HB := Aside0.mk (Below.refl w.heap.size w)
  unfold cells_read_bool.f at h
  obtain ⟨t1, A1_, h⟩ := Option.bind_eq_some_iff.1 h
  have HA1 := Aside0.mk A1_
  clear A1_
  cases t1 with
  | false =>
    simp only [Bool.false_eq_true, if_false, Option.some.injEq, Prod.mk.injEq] at h
    obtain ⟨rfl, rfl⟩ := h
    go_enter Try.func69, Try.ntmps69
    go_wp2_with (first | (go_at_call 39; refine (window_Right.calls _ _ _ _ HA1.out).mono ?_; rintro e w1 ⟨rfl, hb1⟩; have HB1 := Aside0.mk hb1; have GG := Aside0.mk (blk_below (blk_new w (.cells #[.int .i64 a0_0, .int .i64 a0_1] 58)) hb1); clear hb1))
    go_ret2
    exact ⟨_, rfl, Kd.R_nil _ _ _ _ _, below_step (below_alloc HB.out _) HB1.out⟩
  | true =>
    simp only [if_true] at h
    by_cases c1 : (l1.length : Int) = a0_1
    · rw [if_pos c1] at h
      have b1 : ((l1.length : Int) != a0_1) = false := by simp [c1]
      have B1 := Aside0.mk c1
      clear c1
      by_cases c2 : a3 < 1
      · rw [if_pos c2] at h
        simp only [Option.some.injEq, Prod.mk.injEq] at h
        obtain ⟨rfl, rfl⟩ := h
        have b2 : decide (a3 < 1) = true := decide_eq_true c2
        clear c2
        go_enter Try.func69, Try.ntmps69
        go_wp2_with (first | (go_at_call 39; refine (window_Right.calls _ _ _ _ HA1.out).mono ?_; rintro e w1 ⟨rfl, hb1⟩; have HB1 := Aside0.mk hb1; have GG := Aside0.mk (blk_below (blk_new w (.cells #[.int .i64 a0_0, .int .i64 a0_1] 58)) hb1); clear hb1; have hx0 := blk_cell GG.out 0; have hx1 : w1.cell? ⟨w.heap.size, 1, none⟩ = some (.int .i64 a0_1) := (blk_cell GG.out 1).trans rfl))
        go_ret2
        exact ⟨_, rfl, Kd.R_nil _ _ _ _ _, below_step (below_alloc HB.out _) HB1.out⟩
      · rw [if_neg c2] at h
        have b2 : decide (a3 < 1) = false := decide_eq_false c2
        obtain ⟨t2, A2_, h⟩ := Option.bind_eq_some_iff.1 h
        have HA2 := Aside0.mk A2_
        clear A2_
        cases t2 with
        | false =>
          simp only [Bool.false_eq_true, if_false, Option.some.injEq, Prod.mk.injEq] at h
          obtain ⟨rfl, rfl⟩ := h
          clear c2
          go_enter Try.func69, Try.ntmps69
          go_wp2_with (first
            | (go_at_call 39; refine (window_Right.calls _ _ _ _ HA1.out).mono ?_; rintro e w1 ⟨rfl, hb1⟩; have HB1 := Aside0.mk hb1; have GG := Aside0.mk (blk_below (blk_new w (.cells #[.int .i64 a0_0, .int .i64 a0_1] 58)) hb1); clear hb1; have hx0 : w1.cell? ⟨w.heap.size, 0, none⟩ = some (.int .i64 a0_0) := (blk_cell GG.out 0).trans rfl; have hx1 : w1.cell? ⟨w.heap.size, 1, none⟩ = some (.int .i64 a0_1) := (blk_cell GG.out 1).trans rfl)
            | (go_at_call 42; refine (window_Holds.calls k _ _ _ _ _ _ HA2.out).mono ?_; rintro e w2 ⟨rfl, hb2⟩; have HB2 := Aside0.mk hb2; clear hb2))
          go_ret2
          exact ⟨_, rfl, Kd.R_nil _ _ _ _ _, below_step (below_step (below_alloc HB.out _) HB1.out) HB2.out⟩
        | true =>
          simp only [if_true] at h
          have hs0 : 0 ≤ wrap64 (a2 - a0_0) := by
            apply Classical.byContradiction; intro hh; rw [if_neg hh] at h; cases h
          rw [if_pos hs0] at h
          have hs1 : wrap64 (a2 - a0_0) ≤ (l1.length : Int) := by
            apply Classical.byContradiction; intro hh; rw [if_neg hh] at h; cases h
          rw [if_pos hs1] at h
          have hs2 : a3.toNat * 1 ≤ 281474976710656 := by
            apply Classical.byContradiction; intro hh; rw [if_neg hh] at h; cases h
          rw [if_pos hs2] at h
          simp only [Option.some.injEq, Prod.mk.injEq] at h
          obtain ⟨rfl, rfl⟩ := h
          obtain ⟨s, hs⟩ : ∃ s : Nat, wrap64 (a2 - a0_0) = (s : Int) := ⟨(wrap64 (a2 - a0_0)).toNat, by omega⟩
          have es : (wrap64 (a2 - a0_0)).toNat = s := by omega
          have e64 : IntKind.i64.wrap (a2 - a0_0) = (s : Int) := (i64_w _).trans hs
          rw [es]
          have hsl : s ≤ l1.length := by omega
          have HS := Aside0.mk hs
          have HC2 := Aside0.mk (show 1 ≤ a3 by omega)
          have HL2 := Aside0.mk hs2
          have hln : l1.length ≤ 9223372036854775807 := HR.out.2.1
          obtain ⟨i0, hi0, _, hsz0, _⟩ := info_parts cells_read_bool.info
          have hcut := cut_from (P := Try.prog) 81 4 .i64 Try.underlying81 hi0 1 hsz0 A1 l1.length c1 (s : Int) (by omega) (by omega)
          have hdr := Kd.C_drop HR.out hsl HC.out
          rw [List.length_drop] at hdr
          simp only [Int.toNat_natCast] at hcut
          change Kd.C Kd.bool w (if c1 = s then A1 else A1.map (·.add (s * 1))) (l1.length - s) (l1.drop s) at hdr
          generalize (if c1 = s then A1 else A1.map (·.add (s * 1))) = B at hcut hdr
          have HD := Aside0.mk hdr
          clear hs es hs0 hs1 hs2 c2 hdr hi0 hsz0
          go_enter Try.func69, Try.ntmps69
          go_wp2_with (first
            | (go_at_call 39; refine (window_Right.calls _ _ _ _ HA1.out).mono ?_; rintro e w1 ⟨rfl, hb1⟩; have HB1 := Aside0.mk hb1; have GG := Aside0.mk (blk_below (blk_new w (.cells #[.int .i64 a0_0, .int .i64 a0_1] 58)) hb1); clear hb1; have hx0 : w1.cell? ⟨w.heap.size, 0, none⟩ = some (.int .i64 a0_0) := (blk_cell GG.out 0).trans rfl; have hx1 : w1.cell? ⟨w.heap.size, 1, none⟩ = some (.int .i64 a0_1) := (blk_cell GG.out 1).trans rfl)
            | (go_at_call 42; refine (window_Holds.calls k _ _ _ _ _ _ HA2.out).mono ?_; rintro e w2 ⟨rfl, hb2⟩; have HB2 := Aside0.mk (below_step (below_step (below_alloc HB.out _) HB1.out) hb2); have GG2 := Aside0.mk (blk_below GG.out hb2); clear hb2)
            | ((with_reducible refine gate_dst (N := 33) rfl ?_); refine Kd.R_make Kd.bool w.heap.size 4 rfl (N := 33) rfl 81 _ _ rfl a3 rfl rfl Try.underlying81 (.bool false) 1 cells_read_bool.info rfl (by decide) (by omega) false (ok := fun _ => True) (okp := fun _ => True) rfl (fun _ hk => hk) trivial ?h0 HL2.out HB2.out (below_size HB2.out) ?_; (case h0 => have := HC2.out; omega); intro v1 w3 ho hb hg _; have HO := Aside0.mk ho; have HB3 := Aside0.mk hb; have GG3 := Aside0.mk (blk_grown GG2.out hg (by simp)); clear ho hb hg; have hx3 : w3.cell? ⟨w.heap.size, 0, none⟩ = some (.int .i64 a0_0) := (blk_cell GG3.out 0).trans rfl)
            | ((with_reducible refine gate_dst (N := 41) rfl ?_); refine Kd.R_copy (enc := Value.bool) (h1 := fun _ => rfl) false w.heap.size rfl (.tmp 34) (.tmp 40) 81 81 4 rfl Try.underlying81 cells_read_bool.info1 v1 _ (l1.drop s) B (l1.length - s) (c1 - s) (fun _ => True) rfl rfl HO.out (Kd.C_below HD.out HB3.out) HB3.out (below_size HB3.out) ?_; intro w4 ho hb _; simp only [List.length_replicate] at ho ⊢; have HO2 := Aside0.mk ho; have HB4 := Aside0.mk hb; clear ho hb))
          go_ret2
          exact ⟨_, rfl, HO2.out, HB4.out⟩
    · rw [if_neg c1] at h
      have b1 : ((l1.length : Int) != a0_1) = true := by simp [c1]
      clear c1
      simp only [Option.some.injEq, Prod.mk.injEq] at h
      obtain ⟨rfl, rfl⟩ := h
      go_enter Try.func69, Try.ntmps69
      go_wp2_with (first | (go_at_call 39; refine (window_Right.calls _ _ _ _ HA1.out).mono ?_; rintro e w1 ⟨rfl, hb1⟩; have HB1 := Aside0.mk hb1; have GG := Aside0.mk (blk_below (blk_new w (.cells #[.int .i64 a0_0, .int .i64 a0_1] 58)) hb1); clear hb1; have hx0 : w1.cell? ⟨w.heap.size, 0, none⟩ = some (.int .i64 a0_0) := (blk_cell GG.out 0).trans rfl; have hx1 : w1.cell? ⟨w.heap.size, 1, none⟩ = some (.int .i64 a0_1) := (blk_cell GG.out 1).trans rfl))
      go_ret2
      exact ⟨_, rfl, Kd.R_nil _ _ _ _ _, below_step (below_alloc HB.out _) HB1.out⟩

/-! ### cells_write_bool: function 70 -/
def cells_write_bool.put (l with_ : List Bool) (s : Nat) : List Bool := l.take s ++ with_.take (min with_.length (l.length - s)) ++ l.drop (s + min with_.length (l.length - s))
def cells_write_bool.f (k : Nat) (a0_0 a0_1 : Int) (l1 : List Bool) (a2 : Int) (l3 : List Bool) : Option (List Bool × Int) :=
  (cells_read_bool.f k a0_0 a0_1 l1 a2 (l3.length : Int)).bind fun bt => if bt.2 = 0 then (if 0 ≤ wrap64 (a2 - a0_0) then (if wrap64 (a2 - a0_0) ≤ (l1.length : Int) then (if l1.length * 1 ≤ 281474976710656 then
    some (cells_write_bool.put l1 l3 (wrap64 (a2 - a0_0)).toNat, 0) else none) else none) else none) else some ([], bt.2)
theorem cells_write_bool.mono : ∀ a0 a1 a2 a3 a4 k, LeO (cells_write_bool.f k a0 a1 a2 a3 a4) (cells_write_bool.f (k + 1) a0 a1 a2 a3 a4) := by
  intro a0 a1 a2 a3 a4 k
  unfold cells_write_bool.f
  repeat' first
    | (with_reducible exact cells_read_bool.mono _ _ _ _ _ _)
    | (with_reducible exact LeO.refl _)
    | (with_reducible exact LeO.none _)
    | (with_reducible refine LeO.ite ?_ ?_)
    | (with_reducible refine LeO.bind ?_ (fun _ => ?_))
theorem cells_write_bool.info : (Try.prog.info? 4).map (fun i => (i.zero, i.size, i.bytes)) = some (some (.bool false), 1, 1) := by kernel_rfl
theorem cells_write_bool.info1 : (Try.prog.info? 4).map (·.size) = some 1 := by kernel_rfl
set_option maxHeartbeats 4000000 in
set_option maxRecDepth 100000 in
theorem cells_write_bool.calls (k : Nat) (a0_0 : Int) (a0_1 : Int) (A1 : Option Addr) (c1 : Nat) (l1 : List Bool) (a2 : Int) (A3 : Option Addr) (c3 : Nat) (l3 : List Bool) (r1 : List Bool) (r2 : Int) (w : World) (hr1 : Kd.C Kd.bool w A1 l1.length l1) (hc1 : l1.length ≤ c1) (hr3 : Kd.C Kd.bool w A3 l3.length l3) (hc3 : l3.length ≤ c3) (h : cells_write_bool.f k a0_0 a0_1 l1 a2 l3 = some (r1, r2)) :
    Calls Try.prog 70 #[.agg #[.int .i64 a0_0, .int .i64 a0_1], .slice A1 l1.length c1, .int .i64 a2, .slice A3 l3.length c3] w fun e w' => ∃ v0_ : Value, e = .returned (.tuple #[v0_, .int .i64 r2]) ∧ Kd.R Kd.bool 4 w' w.heap.size (fun _ => True) v0_ r1 ∧ Below w.heap.size w w' := by
  have hu1 := Try.underlying58
  have HR := Aside0.mk hr1
  have HC := Aside0.mk hc1
  have HR3 := Aside0.mk hr3
  have HC3 := Aside0.mk hc3
  clear hr1 hc1 hr3 hc3
  have HB := Aside0.mk (Below.refl w.heap.size w)
  unfold cells_write_bool.f at h
  obtain ⟨⟨t1, t2⟩, A1_, h⟩ := Option.bind_eq_some_iff.1 h
  have HA1 := Aside0.mk A1_
  clear A1_
  simp only at h
  by_cases c0 : t2 = 0
  · subst c0
    simp only [if_true] at h
    have hs0 : 0 ≤ wrap64 (a2 - a0_0) := by
      apply Classical.byContradiction; intro hh; rw [if_neg hh] at h; cases h
    rw [if_pos hs0] at h
    have hs1 : wrap64 (a2 - a0_0) ≤ (l1.length : Int) := by
      apply Classical.byContradiction; intro hh; rw [if_neg hh] at h; cases h
    rw [if_pos hs1] at h
    have hs2 : l1.length * 1 ≤ 281474976710656 := by
      apply Classical.byContradiction; intro hh; rw [if_neg hh] at h; cases h
    rw [if_pos hs2] at h
    simp only [Option.some.injEq, Prod.mk.injEq] at h
    obtain ⟨rfl, rfl⟩ := h
    obtain ⟨s, hs⟩ : ∃ s : Nat, wrap64 (a2 - a0_0) = (s : Int) := ⟨(wrap64 (a2 - a0_0)).toNat, by omega⟩
    have es : (wrap64 (a2 - a0_0)).toNat = s := by omega
    have e64 : IntKind.i64.wrap (a2 - a0_0) = (s : Int) := (i64_w _).trans hs
    rw [es]
    have hsl : s ≤ l1.length := by omega
    have HL2 := Aside0.mk hs2
    have hln : l1.length ≤ 9223372036854775807 := HR.out.2.1
    have hln3 : l3.length ≤ 9223372036854775807 := HR3.out.2.1
    obtain ⟨i0, hi0, _, hsz0, _⟩ := info_parts cells_write_bool.info
    have HI := Aside0.mk hi0
    have HZ := Aside0.mk hsz0
    clear hs es hs0 hs1 hs2 hi0 hsz0
    go_enter Try.func70, Try.ntmps70
    go_wp2_with (first
      | (go_at_call 69; refine (cells_read_bool.calls k _ _ _ _ _ _ _ _ _ _ (Kd.C_below HR.out (below_alloc HB.out _)) HC.out HA1.out).mono ?_; rintro e w1 ⟨v0, rfl, _, hb1⟩; have HB1 := Aside0.mk (below_step (below_alloc HB.out _) hb1); have GG := Aside0.mk (blk_below (blk_new w (.cells #[.int .i64 a0_0, .int .i64 a0_1] 58)) hb1); clear hb1)
      | ((with_reducible refine gate_dst (N := 27) rfl ?_); refine Kd.R_make Kd.bool w.heap.size 4 rfl (N := 27) rfl 81 _ _ rfl (l1.length : Int) rfl rfl Try.underlying81 (.bool false) 1 cells_write_bool.info rfl (by decide) (by omega) false (ok := fun _ => True) (okp := fun _ => True) rfl (fun _ hk => hk) trivial (by omega) HL2.out HB1.out (below_size HB1.out) ?_; intro v1 w3 ho hb hg _; have HO := Aside0.mk ho; have HB3 := Aside0.mk hb; have GG3 := Aside0.mk (blk_grown GG.out hg (by simp)); clear ho hb hg)
      | ((with_reducible refine gate_dst (N := 30) rfl ?_); refine Kd.R_copy (enc := Value.bool) (h1 := fun _ => rfl) false w.heap.size rfl (.tmp 28) (.tmp 29) 81 81 4 rfl Try.underlying81 cells_write_bool.info1 v1 _ l1 A1 l1.length c1 (fun _ => True) rfl rfl HO.out (Kd.C_below HR.out HB3.out) HB3.out (below_size HB3.out) ?_; intro w4 ho hb hg; have ho2 := ho; rw [show (l1.take (min l1.length (List.replicate ((l1.length : Int)).toNat false).length) ++ (List.replicate ((l1.length : Int)).toNat false).drop (min l1.length (List.replicate ((l1.length : Int)).toNat false).length)) = l1 by simp] at ho2; have HO4 := Aside0.mk ho2; have HB4 := Aside0.mk hb; have GG4 := Aside0.mk (blk_grown GG3.out hg (fun hh => by have h1 := (Kd.R_bound HO.out).1 _ hh.symm; obtain ⟨_, _, _, q, hq, cells, hc⟩ := h1; have h2 := GG3.out; rw [hc] at h2; injection h2 with h2; injection h2 with _ h3; subst h3; exact absurd (show 58 ∈ [4] from hq) (by decide))); clear ho ho2 hb hg HO; obtain ⟨Ao, co, eo⟩ := Kd.R_slice HO4.out; subst eo; have hx3 : w4.cell? ⟨w.heap.size, 0, none⟩ = some (.int .i64 a0_0) := (blk_cell GG4.out 0).trans rfl; have hcut := cut_from (P := Try.prog) 81 4 .i64 Try.underlying81 HI.out 1 HZ.out Ao l1.length co (s : Int) (by omega) (by omega); simp only [Int.toNat_natCast] at hcut; obtain ⟨B, hB⟩ : ∃ B, (if co = s then Ao else Ao.map (·.add (s * 1))) = B := ⟨_, rfl⟩; rw [hB] at hcut; have HBB := Aside0.mk hB; clear hB)
      | ((with_reducible refine gate_dst (N := 38) rfl ?_); refine Go.Proofs.YtmamkfnnoahcmaaW.X.R_copyAt (enc := Value.bool) (h1 := fun _ => rfl) false w.heap.size rfl (.tmp 36) (.tmp 37) 81 81 4 rfl Try.underlying81 cells_write_bool.info1 Ao co l1 l3 s hsl B HBB.out _ l3.length _ (fun _ => True) rfl rfl HO4.out (Kd.C_below HR3.out HB4.out) HB4.out (below_size HB4.out) ?_; intro w5 ho hb _; have HO5 := Aside0.mk ho; have HB5 := Aside0.mk hb; clear ho hb))
    go_ret2
    exact ⟨_, rfl, HO5.out, HB5.out⟩
  · rw [if_neg c0] at h
    simp only [Option.some.injEq, Prod.mk.injEq] at h
    obtain ⟨rfl, rfl⟩ := h
    have b0 : (t2 != 0) = true := by simpa using c0
    have b1 : (t2 == 0) = false := by simpa using c0
    have hln3 : l3.length ≤ 9223372036854775807 := HR3.out.2.1
    clear c0
    go_enter Try.func70, Try.ntmps70
    go_wp2_with (first | (go_at_call 69; refine (cells_read_bool.calls k _ _ _ _ _ _ _ _ _ _ (Kd.C_below HR.out (below_alloc HB.out _)) HC.out HA1.out).mono ?_; rintro e w1 ⟨v0, rfl, _, hb1⟩; have HB1 := Aside0.mk (below_step (below_alloc HB.out _) hb1); clear hb1))
    go_ret2
    exact ⟨_, rfl, Kd.R_nil _ _ _ _ _, HB1.out⟩

/-! ### cells_SetBits: function 58 -/
def cells_SetBits.f (k : Nat) (a0_0 : Int) (a0_1 : Int) (l1 : List Bool) (a2 : Int) (l3 : List Bool) : Option (List Bool × Int) := (cells_write_bool.f k a0_0 a0_1 l1 a2 l3).bind fun bt124 => (some (bt124.1, bt124.2))
theorem cells_SetBits.mono : ∀ a0 a1 a2 a3 a4 k, LeO (cells_SetBits.f k a0 a1 a2 a3 a4) (cells_SetBits.f (k + 1) a0 a1 a2 a3 a4) := by
 intro a0 a1 a2 a3 a4 k
 unfold cells_SetBits.f
 repeat' first
   | (with_reducible exact cells_write_bool.mono _ _ _ _ _ _)
   | (with_reducible exact LeO.refl _)
   | (with_reducible exact LeO.none _)
   | (with_reducible refine LeO.ite ?_ ?_)
   | (with_reducible refine LeO.bind ?_ (fun _ => ?_))
   | exact cells_write_bool.mono _ _ _ _ _ _
   | exact LeO.none _
   | refine LeO.ite ?_ ?_
   | refine LeO.bind ?_ (fun _ => ?_)
set_option maxHeartbeats 8000000 in
set_option maxRecDepth 100000 in
theorem cells_SetBits.calls (k : Nat) (a0_0 : Int) (a0_1 : Int) (A1 : Option Addr) (c1 : Nat) (l1 : List Bool) (a2 : Int) (A3 : Option Addr) (c3 : Nat) (l3 : List Bool) (r1 : List Bool) (r2 : Int) (w : World) (hr1 : Kd.C Kd.bool w A1 l1.length l1) (hc1 : l1.length ≤ c1) (hr3 : Kd.C Kd.bool w A3 l3.length l3) (hc3 : l3.length ≤ c3) (h : cells_SetBits.f k a0_0 a0_1 l1 a2 l3 = some (r1, r2)) :
  Calls Try.prog 58 #[.agg #[.int .i64 a0_0, .int .i64 a0_1], .slice A1 l1.length c1, .int .i64 a2, .slice A3 l3.length c3] w fun e w' => ∃ v0_ : Value, e = .returned (.tuple #[v0_, .int .i64 r2]) ∧ Kd.R Kd.bool 4 w' w.heap.size (fun _ => True) v0_ r1 ∧ Below w.heap.size w w' := by
 have hu58 := Try.underlying58
 have HR1 := Aside0.mk hr1
 have HC1 := Aside0.mk hc1
 clear hr1 hc1
 have HR3 := Aside0.mk hr3
 have HC3 := Aside0.mk hc3
 clear hr3 hc3
 have HB := Aside0.mk (Below.refl w.heap.size w)
 have H : ((cells_write_bool.f k a0_0 a0_1 l1 a2 l3).bind fun bt124 => (some (bt124.1, bt124.2))) = some (r1, r2) := h
 clear h
 replace H := Option.bind_eq_some_iff.mp H
 obtain ⟨⟨t124, t127⟩, A50, H⟩ := H
 replace H : (some (t124, t127)) = some (r1, r2) := H
 have A5 := Aside0.mk A50
 clear A50
 simp only [Option.some.injEq, Prod.mk.injEq] at H
 obtain ⟨rfl, rfl⟩ := H
 go_enter Try.func58, Try.ntmps58
 go_wp2_with (first | ((with_reducible refine gate_dst (N := 4) rfl ?_); refine box_event ?hg (N := 4) ?hd (cs := #[.int .i64 a0_0, .int .i64 a0_1]) (t := 58) ?hr ?_; (case hd => rfl); (case hg => rfl); (case hr => first | (go_simp; done) | (go_simp; rfl)); intro gb123 hg w6 hbox hb; have n0_ := Aside0.mk (below_step (by repeat (first | (with_reducible first | exact HB.out | apply below_alloc | apply pw_below_drewN | apply below_drew1) | exact HB.out)) hb); have n1_ := Aside0.mk (hbox); have n2_ := Aside0.mk ((by rw [hg]; exact (below_size (by repeat (first | (with_reducible first | exact HB.out | apply below_alloc | apply pw_below_drewN | apply below_drew1) | exact HB.out))) : w.heap.size ≤ gb123)); have n3_ := Aside0.mk ((by rw [hg]; exact (below_size (by repeat (first | (with_reducible first | exact HB.out | apply below_alloc | apply pw_below_drewN | apply below_drew1) | exact HB.out))) : w.heap.size ≤ gb123)); clear HB; have HB := n0_; have BK123 := n1_; have GW123 := n2_; have GE123 := n3_; clear n0_ n1_ n2_ n3_; clear hb hbox hg; have hcz7_0 : w6.cell? ⟨gb123, 0, none⟩ = some (.int .i64 a0_0) := (blk_cell BK123.out 0).trans rfl; have hcz7_1 : w6.cell? ⟨gb123, 1, none⟩ = some (.int .i64 a0_1) := (blk_cell BK123.out 1).trans rfl; have hfz7_0 := blk_frozen BK123.out 0; have hfz7_1 := blk_frozen BK123.out 1) | ((with_reducible refine gate_callee (f := 70) rfl ?_); refine goesL_ (some 14) rfl rfl Try.func70 (by kernel_rfl) rfl #[.agg #[.int .i64 a0_0, .int .i64 a0_1], .slice A1 l1.length c1, .int .i64 a2, .slice A3 l3.length c3] rfl (by (try simp only [List.map_toArray, List.map_cons, List.map_nil]); first | done | rfl | (simp only [List.length_drop, List.length_take]; rfl)) ?_; (with_reducible refine (cells_write_bool.calls k a0_0 a0_1 _ _ l1 a2 _ _ l3 t124 t127 _ ?side1 ?side2 ?side3 ?side4 A5.out).mono ?_); (case side1 => repeat (first | exact (Kd.C_below HR1.out HB.out) | (with_reducible refine Kd.C_alloc ?_ _) | (with_reducible refine Kd.C_drewN ?_ _) | (with_reducible refine Kd.C_drew ?_))); (case side2 => exact HC1.out); (case side3 => repeat (first | exact (Kd.C_below HR3.out HB.out) | (with_reducible refine Kd.C_alloc ?_ _) | (with_reducible refine Kd.C_drewN ?_ _) | (with_reducible refine Kd.C_drew ?_))); (case side4 => exact HC3.out); rintro e w8 ⟨v125, rfl, ho0, hb⟩; refine ⟨_, rfl, ?_⟩; have n0_ := Aside0.mk (Kd.R_lower ho0 (below_size (by repeat (first | (with_reducible first | exact HB.out | apply below_alloc | apply pw_below_drewN | apply below_drew1 | refine below_set ?_ GE123.out) | exact HB.out)))); have n1_ := Aside0.mk (blk_below (g := gb123) (o := .cells #[.int .i64 a0_0, .int .i64 a0_1] 58 (0, 0)) (by (with_reducible repeat (first | refine blk_drewN ?_ _ | refine blk_drew ?_ | refine blk_alloc ?_ _)); exact BK123.out) hb); have n2_ := Aside0.mk (below_step (by repeat (first | (with_reducible first | exact HB.out | apply below_alloc | apply pw_below_drewN | apply below_drew1 | refine below_set ?_ GE123.out) | exact HB.out)) hb); clear BK123; clear HB; have HO126 := n0_; have BK123 := n1_; have HB := n2_; clear n0_ n1_ n2_; (try clear hb); (try clear hb2); (try clear hk); (try clear hi); (try clear ho0)))
 go_ret2
 exact ⟨_, by first | rfl | (simp [errW_none, errW_some] <;> rfl) | (simp [*, errW_none, errW_some] <;> rfl), by (with_reducible repeat (first | apply Kd.R_alloc | apply Kd.R_drewN | apply Kd.R_drew)); exact HO126.out, by repeat (first | (with_reducible first | exact HB.out | apply below_alloc | apply pw_below_drewN | apply below_drew1 | refine below_set ?_ GE123.out) | exact HB.out)⟩

/-! ### bilgeref02_Same: function 60 -/
def bilgeref02_Same.l0 : Nat → List Bool → List Bool → Int → Option (Bool)
 | 0, _, _, _ => none
 | k + 1, x0, x1, x5 => if x5 < (x0.length : Int) then (if 0 ≤ x5 then (if x5 < (x1.length : Int) then (if ((rdOf false x0 x5) != (rdOf false x1 x5)) = true then (some false) else (bilgeref02_Same.l0 k x0 x1 (wrap64 (x5 + 1)))) else (none)) else (none)) else (some true)
def bilgeref02_Same.f (k : Nat) (l0 : List Bool) (l1 : List Bool) : Option (Bool) := if (l0.length : Int) = (l1.length : Int) then (bilgeref02_Same.l0 k l0 l1 0) else (some false)
theorem bilgeref02_Same.mono_l : ∀ k, (∀ y0 y1 y2, LeO (bilgeref02_Same.l0 k y0 y1 y2) (bilgeref02_Same.l0 (k + 1) y0 y1 y2))
 | 0 => fun _ _ _ r h => by simp [bilgeref02_Same.l0] at h
 | k + 1 => by
  have ih0 := bilgeref02_Same.mono_l k
  ·intro y0 y1 y2
   unfold bilgeref02_Same.l0
   repeat' first
   | (with_reducible exact ih0 _ _ _)
   | (with_reducible exact LeO.refl _)
   | (with_reducible exact LeO.none _)
   | (with_reducible refine LeO.ite ?_ ?_)
   | (with_reducible refine LeO.bind ?_ (fun _ => ?_))
   | exact ih0 _ _ _
   | exact LeO.none _
   | refine LeO.ite ?_ ?_
   | refine LeO.bind ?_ (fun _ => ?_)
theorem bilgeref02_Same.mono : ∀ a0 a1 k, LeO (bilgeref02_Same.f k a0 a1) (bilgeref02_Same.f (k + 1) a0 a1) := by
 intro a0 a1 k
 have ih0 := bilgeref02_Same.mono_l k
 unfold bilgeref02_Same.f
 repeat' first
   | (with_reducible exact ih0 _ _ _)
   | (with_reducible exact LeO.refl _)
   | (with_reducible exact LeO.none _)
   | (with_reducible refine LeO.ite ?_ ?_)
   | (with_reducible refine LeO.bind ?_ (fun _ => ?_))
   | exact ih0 _ _ _
   | exact LeO.none _
   | refine LeO.ite ?_ ?_
   | refine LeO.bind ?_ (fun _ => ?_)
set_option maxHeartbeats 8000000 in
set_option maxRecDepth 100000 in
theorem bilgeref02_Same.calls (k : Nat) (A0 : Option Addr) (c0 : Nat) (l0 : List Bool) (A1 : Option Addr) (c1 : Nat) (l1 : List Bool) (r : Bool) (w : World) (hr0 : Kd.C Kd.bool w A0 l0.length l0) (hc0 : l0.length ≤ c0) (hr1 : Kd.C Kd.bool w A1 l1.length l1) (hc1 : l1.length ≤ c1) (h : bilgeref02_Same.f k l0 l1 = some r) :
  Calls Try.prog 60 #[.slice A0 l0.length c0, .slice A1 l1.length c1] w fun e w' => e = .returned (.bool r) ∧ Drawn0 w w' := by
 have HR0 := Aside0.mk hr0
 have HC0 := Aside0.mk hc0
 clear hr0 hc0
 have HR1 := Aside0.mk hr1
 have HC1 := Aside0.mk hc1
 clear hr1 hc1
 have H : (if (l0.length : Int) = (l1.length : Int) then (bilgeref02_Same.l0 k l0 l1 0) else (some false)) = some r := h
 clear h
 by_cases c3 : (l0.length : Int) = (l1.length : Int)
 ·rw [if_pos c3] at H
  have c3b0 : ((l0.length : Int) == (l1.length : Int)) = true := beq_iff_eq.mpr c3
  have c3b1 : ((l0.length : Int) != (l1.length : Int)) = false := bne_eq_false_iff_eq.mpr c3
  have c3b2 : (l0.length == l1.length) = true := by first | simpa using c3 | (simp at c3 ⊢; omega)
  clear c3
  have H' := Aside0.mk H
  clear H
  go_enter Try.func60, Try.ntmps60
  go_wp2
  repeat (go_quiet (fail); try go_wp2)
  go_loopg [5] k (fun kq v5 w' => ∃ (x5_1 : Int), v5 = .int .i64 x5_1 ∧ Aside0 (bilgeref02_Same.l0 kq l0 l1 x5_1 = some r) ∧ Aside0 (kq ≤ k) ∧ Drawn0 w w')
  case atStart => exact ⟨(0), (by first | rfl | (simp; done) | (simp [*]; done)), H', ⟨Nat.le_refl _⟩, by repeat (first | exact Drawn0.refl _ | apply Drawn0.step)⟩
  case round =>
   clear H'
   try clear c1
   try clear p2
   try clear c3
   try clear c3b0
   try clear c3b1
   try clear c3b2
   obtain ⟨x5_1, rfl, HA, HK1, ⟨m1, rfl⟩⟩ := hrel
   cases gk with
   | zero => exact absurd HA.out (by simp [bilgeref02_Same.l0])
   | succ k1 =>
    have H := HA.out
    clear HA
    simp only [bilgeref02_Same.l0] at H
    by_cases c4 : x5_1 < (l0.length : Int)
    ·rw [if_pos c4] at H
     have c4b0 : decide (x5_1 < (l0.length : Int)) = true := decide_eq_true c4
     clear c4
     by_cases c5 : 0 ≤ x5_1
     ·rw [if_pos c5] at H
      have c5b0 : decide (0 ≤ x5_1) = true := decide_eq_true c5
      clear c5
      by_cases c6 : x5_1 < (l1.length : Int)
      ·rw [if_pos c6] at H
       have c6b0 : decide (x5_1 < (l1.length : Int)) = true := decide_eq_true c6
       clear c6
       by_cases c7 : ((rdOf false l0 x5_1) != (rdOf false l1 x5_1)) = true
       ·rw [if_pos c7] at H
        have c7b0 : ((rdOf false l0 x5_1) != (rdOf false l1 x5_1)) = true := c7
        (try (have c7b1 : decide ((rdOf false l0 x5_1) = (rdOf false l1 x5_1)) = false := by simpa using c7))
        (try (have c7b2 : ((rdOf false l0 x5_1) == (rdOf false l1 x5_1)) = false := by simpa using c7))
        (try (have c7b3 : ¬ ((rdOf false l0 x5_1) = (rdOf false l1 x5_1)) := by simpa using c7))
        clear c7
        obtain rfl := Option.some.inj H
        have p128 : 0 ≤ (x5_1 : Int) := of_decide_eq_true (by first | (with_reducible assumption) | assumption)
        have q128 : x5_1 < (l0.length : Int) := of_decide_eq_true (by first | (with_reducible assumption) | assumption)
        obtain ⟨ad128, e128, hx128_0⟩ := Kd.at_bool HR0.out x5_1 p128 q128
        cases e128
        replace p128 := eq_true p128
        replace q128 := eq_true q128
        have p129 : 0 ≤ (x5_1 : Int) := of_decide_eq_true (by first | (with_reducible assumption) | assumption)
        have q129 : x5_1 < (l1.length : Int) := of_decide_eq_true (by first | (with_reducible assumption) | assumption)
        obtain ⟨ad129, e129, hx129_0⟩ := Kd.at_bool HR1.out x5_1 p129 q129
        cases e129
        replace p129 := eq_true p129
        replace q129 := eq_true q129
        go_wp2
        all_goals try (first | exact absurd (of_decide_eq_true c4b0) (by assumption) | exact absurd (of_decide_eq_true c5b0) (by assumption) | exact absurd (of_decide_eq_true c6b0) (by assumption))
        repeat (go_quiet (fail); try go_wp2)
        go_ret
        exact ⟨by first | rfl | (simp; done) | (simp [*]; done), by repeat (first | exact Drawn0.refl _ | apply Drawn0.step)⟩
       ·rw [if_neg c7] at H
        have c7b0 : ((rdOf false l0 x5_1) != (rdOf false l1 x5_1)) = false := by simpa using c7
        (try (have c7b1 : decide ((rdOf false l0 x5_1) = (rdOf false l1 x5_1)) = true := by simpa using c7))
        (try (have c7b2 : ((rdOf false l0 x5_1) == (rdOf false l1 x5_1)) = true := by simpa using c7))
        clear c7
        have H' := Aside0.mk H
        clear H
        have p128 : 0 ≤ (x5_1 : Int) := of_decide_eq_true (by first | (with_reducible assumption) | assumption)
        have q128 : x5_1 < (l0.length : Int) := of_decide_eq_true (by first | (with_reducible assumption) | assumption)
        obtain ⟨ad128, e128, hx128_0⟩ := Kd.at_bool HR0.out x5_1 p128 q128
        cases e128
        replace p128 := eq_true p128
        replace q128 := eq_true q128
        have p129 : 0 ≤ (x5_1 : Int) := of_decide_eq_true (by first | (with_reducible assumption) | assumption)
        have q129 : x5_1 < (l1.length : Int) := of_decide_eq_true (by first | (with_reducible assumption) | assumption)
        obtain ⟨ad129, e129, hx129_0⟩ := Kd.at_bool HR1.out x5_1 p129 q129
        cases e129
        replace p129 := eq_true p129
        replace q129 := eq_true q129
        go_wp2
        all_goals try (first | exact absurd (of_decide_eq_true c4b0) (by assumption) | exact absurd (of_decide_eq_true c5b0) (by assumption) | exact absurd (of_decide_eq_true c6b0) (by assumption))
        repeat (go_quiet (fail); try go_wp2)
        go_roundg k1
        case measure => have := HK1.out; omega
        case rel => exact ⟨(wrap64 (x5_1 + 1)), (by first | rfl | (simp; done) | (simp [*]; done)), H', ⟨by have := HK1.out; omega⟩, by repeat (first | exact Drawn0.refl _ | apply Drawn0.step)⟩
      ·rw [if_neg c6] at H
       exact absurd H (by simp)
     ·rw [if_neg c5] at H
      exact absurd H (by simp)
    ·rw [if_neg c4] at H
     have c4b0 : decide (x5_1 < (l0.length : Int)) = false := decide_eq_false c4
     clear c4
     obtain rfl := Option.some.inj H
     go_wp2
     all_goals try (first | exact absurd (by assumption) (of_decide_eq_false c4b0))
     repeat (go_quiet (fail); try go_wp2)
     go_ret
     exact ⟨by first | rfl | (simp; done) | (simp [*]; done), by repeat (first | exact Drawn0.refl _ | apply Drawn0.step)⟩
 ·rw [if_neg c3] at H
  have c3b0 : ((l0.length : Int) == (l1.length : Int)) = false := beq_eq_false_iff_ne.mpr c3
  have c3b1 : ((l0.length : Int) != (l1.length : Int)) = true := bne_iff_ne.mpr c3
  have c3b2 : (l0.length == l1.length) = false := by first | simpa using c3 | (simp at c3 ⊢; omega)
  obtain rfl := Option.some.inj H
  go_enter Try.func60, Try.ntmps60
  go_wp2
  repeat (go_quiet (fail); try go_wp2)
  go_ret
  exact ⟨by first | rfl | (simp; done) | (simp [*]; done), by repeat (first | exact Drawn0.refl _ | apply Drawn0.step)⟩

/-! ### bilgelaw13_sure: function 49 -/
def bilgelaw13_sure.f (k : Nat)  : Option (Bool) := (cells_Words.f k 5 3 (([7, 8, 9] : List Int)) 6 2).bind fun bt134 => ((cells_Words.f k 5 3 (([7, 8, 9] : List Int)) 7 2).bind fun bt141 => ((cells_SetBits.f k 5 3 (([true, true, true] : List Bool)) 7 (([false] : List Bool))).bind fun bt151 => ((cells_SetWords.f k 5 3 ([] : List Int) 5 (([1] : List Int))).bind fun bt158 => (if bt134.2 = 0 then ((bilgeref01_Words.f k bt134.1 (([8, 9] : List Int))).bind fun t165 => (if t165 = true then (if bt141.2 = 2 then (if bt151.2 = 0 then ((bilgeref02_Same.f k bt151.1 (([true, true, false] : List Bool))).bind fun t169 => (if t169 = true then (if bt158.2 = 11 then ((cells_Mask.f 18 242 37).bind fun t170 => (some (t170 == 23))) else (none)) else (none))) else (none)) else (none)) else (none))) else (none)))))
theorem bilgelaw13_sure.mono : ∀ k, LeO (bilgelaw13_sure.f k ) (bilgelaw13_sure.f (k + 1) ) := by
 intro  k
 unfold bilgelaw13_sure.f
 repeat' first
   | (with_reducible exact bilgeref01_Words.mono _ _ _)
   | (with_reducible exact bilgeref02_Same.mono _ _ _)
   | (with_reducible exact cells_SetBits.mono _ _ _ _ _ _)
   | (with_reducible exact cells_SetWords.mono _ _ _ _ _ _)
   | (with_reducible exact cells_Words.mono _ _ _ _ _ _)
   | (with_reducible exact LeO.refl _)
   | (with_reducible exact LeO.none _)
   | (with_reducible refine LeO.ite ?_ ?_)
   | (with_reducible refine LeO.bind ?_ (fun _ => ?_))
   | exact bilgeref01_Words.mono _ _ _
   | exact bilgeref02_Same.mono _ _ _
   | exact cells_SetBits.mono _ _ _ _ _ _
   | exact cells_SetWords.mono _ _ _ _ _ _
   | exact cells_Words.mono _ _ _ _ _ _
   | exact LeO.none _
   | refine LeO.ite ?_ ?_
   | refine LeO.bind ?_ (fun _ => ?_)
set_option maxHeartbeats 8000000 in
set_option maxRecDepth 100000 in
theorem bilgelaw13_sure.calls (k : Nat)  (r : Bool) (w : World) (h : bilgelaw13_sure.f k  = some r) :
  Calls Try.prog 49 #[] w fun e w' => e = .returned (.bool r) ∧ Below w.heap.size w w' := by
 have hu58 := Try.underlying58
 have HB := Aside0.mk (Below.refl w.heap.size w)
 have H : ((cells_Words.f k 5 3 (([7, 8, 9] : List Int)) 6 2).bind fun bt134 => ((cells_Words.f k 5 3 (([7, 8, 9] : List Int)) 7 2).bind fun bt141 => ((cells_SetBits.f k 5 3 (([true, true, true] : List Bool)) 7 (([false] : List Bool))).bind fun bt151 => ((cells_SetWords.f k 5 3 ([] : List Int) 5 (([1] : List Int))).bind fun bt158 => (if bt134.2 = 0 then ((bilgeref01_Words.f k bt134.1 (([8, 9] : List Int))).bind fun t165 => (if t165 = true then (if bt141.2 = 2 then (if bt151.2 = 0 then ((bilgeref02_Same.f k bt151.1 (([true, true, false] : List Bool))).bind fun t169 => (if t169 = true then (if bt158.2 = 11 then ((cells_Mask.f 18 242 37).bind fun t170 => (some (t170 == 23))) else (none)) else (none))) else (none)) else (none)) else (none))) else (none)))))) = some r := h
 clear h
 obtain ⟨y131, hy131⟩ : ∃ y_ : List Int, y_ = (([7, 8, 9] : List Int)) := ⟨_, rfl⟩
 replace H : ((cells_Words.f k 5 3 y131 6 2).bind fun bt134 => ((cells_Words.f k 5 3 (([7, 8, 9] : List Int)) 7 2).bind fun bt141 => ((cells_SetBits.f k 5 3 (([true, true, true] : List Bool)) 7 (([false] : List Bool))).bind fun bt151 => ((cells_SetWords.f k 5 3 ([] : List Int) 5 (([1] : List Int))).bind fun bt158 => (if bt134.2 = 0 then ((bilgeref01_Words.f k bt134.1 (([8, 9] : List Int))).bind fun t165 => (if t165 = true then (if bt141.2 = 2 then (if bt151.2 = 0 then ((bilgeref02_Same.f k bt151.1 (([true, true, false] : List Bool))).bind fun t169 => (if t169 = true then (if bt158.2 = 11 then ((cells_Mask.f 18 242 37).bind fun t170 => (some (t170 == 23))) else (none)) else (none))) else (none)) else (none)) else (none))) else (none)))))) = some r := by first | (rw [hy131]; with_reducible exact H) | (have H2_ := (Option.bind_some _ _).symm.trans H; rw [hy131]; with_reducible exact H2_) | (have H2_ := (Option.bind_some _ _).symm.trans H; with_reducible exact H2_) | with_reducible exact H | (rw [hy131]; exact H) | exact H
 have Ny131 := Aside0.mk hy131
 clear hy131
 replace H := Option.bind_eq_some_iff.mp H
 obtain ⟨⟨t134, t137⟩, A10, H⟩ := H
 replace H : ((cells_Words.f k 5 3 (([7, 8, 9] : List Int)) 7 2).bind fun bt141 => ((cells_SetBits.f k 5 3 (([true, true, true] : List Bool)) 7 (([false] : List Bool))).bind fun bt151 => ((cells_SetWords.f k 5 3 ([] : List Int) 5 (([1] : List Int))).bind fun bt158 => (if t137 = 0 then ((bilgeref01_Words.f k t134 (([8, 9] : List Int))).bind fun t165 => (if t165 = true then (if bt141.2 = 2 then (if bt151.2 = 0 then ((bilgeref02_Same.f k bt151.1 (([true, true, false] : List Bool))).bind fun t169 => (if t169 = true then (if bt158.2 = 11 then ((cells_Mask.f 18 242 37).bind fun t170 => (some (t170 == 23))) else (none)) else (none))) else (none)) else (none)) else (none))) else (none))))) = some r := H
 have A1 := Aside0.mk A10
 clear A10
 obtain ⟨y138, hy138⟩ : ∃ y_ : List Int, y_ = (([7, 8, 9] : List Int)) := ⟨_, rfl⟩
 replace H : ((cells_Words.f k 5 3 y138 7 2).bind fun bt141 => ((cells_SetBits.f k 5 3 (([true, true, true] : List Bool)) 7 (([false] : List Bool))).bind fun bt151 => ((cells_SetWords.f k 5 3 ([] : List Int) 5 (([1] : List Int))).bind fun bt158 => (if t137 = 0 then ((bilgeref01_Words.f k t134 (([8, 9] : List Int))).bind fun t165 => (if t165 = true then (if bt141.2 = 2 then (if bt151.2 = 0 then ((bilgeref02_Same.f k bt151.1 (([true, true, false] : List Bool))).bind fun t169 => (if t169 = true then (if bt158.2 = 11 then ((cells_Mask.f 18 242 37).bind fun t170 => (some (t170 == 23))) else (none)) else (none))) else (none)) else (none)) else (none))) else (none))))) = some r := by first | (rw [hy138]; with_reducible exact H) | (have H2_ := (Option.bind_some _ _).symm.trans H; rw [hy138]; with_reducible exact H2_) | (have H2_ := (Option.bind_some _ _).symm.trans H; with_reducible exact H2_) | with_reducible exact H | (rw [hy138]; exact H) | exact H
 have Ny138 := Aside0.mk hy138
 clear hy138
 replace H := Option.bind_eq_some_iff.mp H
 obtain ⟨⟨t141, t144⟩, A20, H⟩ := H
 replace H : ((cells_SetBits.f k 5 3 (([true, true, true] : List Bool)) 7 (([false] : List Bool))).bind fun bt151 => ((cells_SetWords.f k 5 3 ([] : List Int) 5 (([1] : List Int))).bind fun bt158 => (if t137 = 0 then ((bilgeref01_Words.f k t134 (([8, 9] : List Int))).bind fun t165 => (if t165 = true then (if t144 = 2 then (if bt151.2 = 0 then ((bilgeref02_Same.f k bt151.1 (([true, true, false] : List Bool))).bind fun t169 => (if t169 = true then (if bt158.2 = 11 then ((cells_Mask.f 18 242 37).bind fun t170 => (some (t170 == 23))) else (none)) else (none))) else (none)) else (none)) else (none))) else (none)))) = some r := H
 have A2 := Aside0.mk A20
 clear A20
 obtain ⟨y145, hy145⟩ : ∃ y_ : List Bool, y_ = (([true, true, true] : List Bool)) := ⟨_, rfl⟩
 replace H : ((cells_SetBits.f k 5 3 y145 7 (([false] : List Bool))).bind fun bt151 => ((cells_SetWords.f k 5 3 ([] : List Int) 5 (([1] : List Int))).bind fun bt158 => (if t137 = 0 then ((bilgeref01_Words.f k t134 (([8, 9] : List Int))).bind fun t165 => (if t165 = true then (if t144 = 2 then (if bt151.2 = 0 then ((bilgeref02_Same.f k bt151.1 (([true, true, false] : List Bool))).bind fun t169 => (if t169 = true then (if bt158.2 = 11 then ((cells_Mask.f 18 242 37).bind fun t170 => (some (t170 == 23))) else (none)) else (none))) else (none)) else (none)) else (none))) else (none)))) = some r := by first | (rw [hy145]; with_reducible exact H) | (have H2_ := (Option.bind_some _ _).symm.trans H; rw [hy145]; with_reducible exact H2_) | (have H2_ := (Option.bind_some _ _).symm.trans H; with_reducible exact H2_) | with_reducible exact H | (rw [hy145]; exact H) | exact H
 have Ny145 := Aside0.mk hy145
 clear hy145
 obtain ⟨y148, hy148⟩ : ∃ y_ : List Bool, y_ = (([false] : List Bool)) := ⟨_, rfl⟩
 replace H : ((cells_SetBits.f k 5 3 y145 7 y148).bind fun bt151 => ((cells_SetWords.f k 5 3 ([] : List Int) 5 (([1] : List Int))).bind fun bt158 => (if t137 = 0 then ((bilgeref01_Words.f k t134 (([8, 9] : List Int))).bind fun t165 => (if t165 = true then (if t144 = 2 then (if bt151.2 = 0 then ((bilgeref02_Same.f k bt151.1 (([true, true, false] : List Bool))).bind fun t169 => (if t169 = true then (if bt158.2 = 11 then ((cells_Mask.f 18 242 37).bind fun t170 => (some (t170 == 23))) else (none)) else (none))) else (none)) else (none)) else (none))) else (none)))) = some r := by first | (rw [hy148]; with_reducible exact H) | (have H2_ := (Option.bind_some _ _).symm.trans H; rw [hy148]; with_reducible exact H2_) | (have H2_ := (Option.bind_some _ _).symm.trans H; with_reducible exact H2_) | with_reducible exact H | (rw [hy148]; exact H) | exact H
 have Ny148 := Aside0.mk hy148
 clear hy148
 replace H := Option.bind_eq_some_iff.mp H
 obtain ⟨⟨t151, t154⟩, A30, H⟩ := H
 replace H : ((cells_SetWords.f k 5 3 ([] : List Int) 5 (([1] : List Int))).bind fun bt158 => (if t137 = 0 then ((bilgeref01_Words.f k t134 (([8, 9] : List Int))).bind fun t165 => (if t165 = true then (if t144 = 2 then (if t154 = 0 then ((bilgeref02_Same.f k t151 (([true, true, false] : List Bool))).bind fun t169 => (if t169 = true then (if bt158.2 = 11 then ((cells_Mask.f 18 242 37).bind fun t170 => (some (t170 == 23))) else (none)) else (none))) else (none)) else (none)) else (none))) else (none))) = some r := H
 have A3 := Aside0.mk A30
 clear A30
 obtain ⟨y155, hy155⟩ : ∃ y_ : List Int, y_ = (([1] : List Int)) := ⟨_, rfl⟩
 replace H : ((cells_SetWords.f k 5 3 ([] : List Int) 5 y155).bind fun bt158 => (if t137 = 0 then ((bilgeref01_Words.f k t134 (([8, 9] : List Int))).bind fun t165 => (if t165 = true then (if t144 = 2 then (if t154 = 0 then ((bilgeref02_Same.f k t151 (([true, true, false] : List Bool))).bind fun t169 => (if t169 = true then (if bt158.2 = 11 then ((cells_Mask.f 18 242 37).bind fun t170 => (some (t170 == 23))) else (none)) else (none))) else (none)) else (none)) else (none))) else (none))) = some r := by first | (rw [hy155]; with_reducible exact H) | (have H2_ := (Option.bind_some _ _).symm.trans H; rw [hy155]; with_reducible exact H2_) | (have H2_ := (Option.bind_some _ _).symm.trans H; with_reducible exact H2_) | with_reducible exact H | (rw [hy155]; exact H) | exact H
 have Ny155 := Aside0.mk hy155
 clear hy155
 replace H := Option.bind_eq_some_iff.mp H
 obtain ⟨⟨t158, t161⟩, A40, H⟩ := H
 replace H : (if t137 = 0 then ((bilgeref01_Words.f k t134 (([8, 9] : List Int))).bind fun t165 => (if t165 = true then (if t144 = 2 then (if t154 = 0 then ((bilgeref02_Same.f k t151 (([true, true, false] : List Bool))).bind fun t169 => (if t169 = true then (if t161 = 11 then ((cells_Mask.f 18 242 37).bind fun t170 => (some (t170 == 23))) else (none)) else (none))) else (none)) else (none)) else (none))) else (none)) = some r := H
 have A4 := Aside0.mk A40
 clear A40
 by_cases c5 : t137 = 0
 ·rw [if_pos c5] at H
  have c5b0 : (t137 == 0) = true := beq_iff_eq.mpr c5
  have c5b1 : (t137 != 0) = false := bne_eq_false_iff_eq.mpr c5
  clear c5
  obtain ⟨y162, hy162⟩ : ∃ y_ : List Int, y_ = (([8, 9] : List Int)) := ⟨_, rfl⟩
  replace H : ((bilgeref01_Words.f k t134 y162).bind fun t165 => (if t165 = true then (if t144 = 2 then (if t154 = 0 then ((bilgeref02_Same.f k t151 (([true, true, false] : List Bool))).bind fun t169 => (if t169 = true then (if t161 = 11 then ((cells_Mask.f 18 242 37).bind fun t170 => (some (t170 == 23))) else (none)) else (none))) else (none)) else (none)) else (none))) = some r := by first | (rw [hy162]; with_reducible exact H) | (have H2_ := (Option.bind_some _ _).symm.trans H; rw [hy162]; with_reducible exact H2_) | (have H2_ := (Option.bind_some _ _).symm.trans H; with_reducible exact H2_) | with_reducible exact H | (rw [hy162]; exact H) | exact H
  have Ny162 := Aside0.mk hy162
  clear hy162
  replace H := Option.bind_eq_some_iff.mp H
  obtain ⟨t165, A60, H⟩ := H
  replace H : (if t165 = true then (if t144 = 2 then (if t154 = 0 then ((bilgeref02_Same.f k t151 (([true, true, false] : List Bool))).bind fun t169 => (if t169 = true then (if t161 = 11 then ((cells_Mask.f 18 242 37).bind fun t170 => (some (t170 == 23))) else (none)) else (none))) else (none)) else (none)) else (none)) = some r := H
  have A6 := Aside0.mk A60
  clear A60
  by_cases c7 : t165 = true
  ·subst c7
   have H1 : (if t144 = 2 then (if t154 = 0 then ((bilgeref02_Same.f k t151 (([true, true, false] : List Bool))).bind fun t169 => (if t169 = true then (if t161 = 11 then ((cells_Mask.f 18 242 37).bind fun t170 => (some (t170 == 23))) else (none)) else (none))) else (none)) else (none)) = some r := by rw [if_pos rfl] at H; exact H
   clear H
   have H := H1
   clear H1
   by_cases c8 : t144 = 2
   ·rw [if_pos c8] at H
    have c8b0 : (t144 == 2) = true := beq_iff_eq.mpr c8
    have c8b1 : (t144 != 2) = false := bne_eq_false_iff_eq.mpr c8
    clear c8
    by_cases c9 : t154 = 0
    ·rw [if_pos c9] at H
     have c9b0 : (t154 == 0) = true := beq_iff_eq.mpr c9
     have c9b1 : (t154 != 0) = false := bne_eq_false_iff_eq.mpr c9
     clear c9
     obtain ⟨y166, hy166⟩ : ∃ y_ : List Bool, y_ = (([true, true, false] : List Bool)) := ⟨_, rfl⟩
     replace H : ((bilgeref02_Same.f k t151 y166).bind fun t169 => (if t169 = true then (if t161 = 11 then ((cells_Mask.f 18 242 37).bind fun t170 => (some (t170 == 23))) else (none)) else (none))) = some r := by first | (rw [hy166]; with_reducible exact H) | (have H2_ := (Option.bind_some _ _).symm.trans H; rw [hy166]; with_reducible exact H2_) | (have H2_ := (Option.bind_some _ _).symm.trans H; with_reducible exact H2_) | with_reducible exact H | (rw [hy166]; exact H) | exact H
     have Ny166 := Aside0.mk hy166
     clear hy166
     replace H := Option.bind_eq_some_iff.mp H
     obtain ⟨t169, A100, H⟩ := H
     replace H : (if t169 = true then (if t161 = 11 then ((cells_Mask.f 18 242 37).bind fun t170 => (some (t170 == 23))) else (none)) else (none)) = some r := H
     have A10 := Aside0.mk A100
     clear A100
     by_cases c11 : t169 = true
     ·subst c11
      have H1 : (if t161 = 11 then ((cells_Mask.f 18 242 37).bind fun t170 => (some (t170 == 23))) else (none)) = some r := by rw [if_pos rfl] at H; exact H
      clear H
      have H := H1
      clear H1
      by_cases c12 : t161 = 11
      ·rw [if_pos c12] at H
       have c12b0 : (t161 == 11) = true := beq_iff_eq.mpr c12
       have c12b1 : (t161 != 11) = false := bne_eq_false_iff_eq.mpr c12
       clear c12
       replace H := Option.bind_eq_some_iff.mp H
       obtain ⟨t170, A130, H⟩ := H
       replace H : (some (t170 == 23)) = some r := H
       have A13 := Aside0.mk A130
       clear A130
       obtain rfl := Option.some.inj H
       go_enter Try.func49, Try.ntmps49
       go_wp2_with (first | ((with_reducible refine gate_dst (N := 1) rfl ?_); (try (refine gate_guard (by rfl) ?_; dsimp only)); refine box_event ?hg (N := 1) ?hd (cs := #[.int .i64 0, .int .i64 0]) (t := 58) ?hr ?_; (case hd => rfl); (case hg => rfl); (case hr => first | (go_simp; done) | (go_simp; rfl)); intro gb130 hg w14 hbox hb; have n0_ := Aside0.mk (below_step (by repeat (first | (with_reducible first | exact HB.out | apply below_alloc | apply pw_below_drewN | apply below_drew1) | exact HB.out)) hb); have n1_ := Aside0.mk (hbox); have n2_ := Aside0.mk ((by rw [hg]; exact (below_size (by repeat (first | (with_reducible first | exact HB.out | apply below_alloc | apply pw_below_drewN | apply below_drew1) | exact HB.out))) : w.heap.size ≤ gb130)); have n3_ := Aside0.mk ((by rw [hg]; exact (below_size (by repeat (first | (with_reducible first | exact HB.out | apply below_alloc | apply pw_below_drewN | apply below_drew1) | exact HB.out))) : w.heap.size ≤ gb130)); clear HB; have HB := n0_; have BK130 := n1_; have GW130 := n2_; have GE130 := n3_; clear n0_ n1_ n2_ n3_; clear hb hbox hg; have hcz15_0 : w14.cell? ⟨gb130, 0, none⟩ = some (.int .i64 0) := (blk_cell BK130.out 0).trans rfl; have hcz15_1 : w14.cell? ⟨gb130, 1, none⟩ = some (.int .i64 0) := (blk_cell BK130.out 1).trans rfl; have hfz15_0 := blk_frozen BK130.out 0; have hfz15_1 := blk_frozen BK130.out 1) | ((with_reducible refine gate_dst (N := 13) rfl ?_); (try (refine gate_guard (by rfl) ?_; dsimp only)); refine Kd.R_lit (Kd.int .u16) _ 45 ?hg (N := 13) ?hd (xs := ([7, 8, 9] : List Int)) (inner := [.int .u16 7, .int .u16 8, .int .u16 9]) (ok := fun _ => True) (okp := fun _ => True) ?hr ?hp (fun _ hk => hk) trivial (Below.refl _ _) (Nat.le_refl _) (by simp) ?_; (case hd => rfl); (case hg => rfl); (case hr => first | (go_simp; done) | (go_simp; rfl)); (case hp => exact (Reps.one (show Kd.M (Kd.int .u16) _ _ _ 7 [.int .u16 7] from rfl) (Reps.one (show Kd.M (Kd.int .u16) _ _ _ 8 [.int .u16 8] from rfl) (Reps.one (show Kd.M (Kd.int .u16) _ _ _ 9 [.int .u16 9] from rfl) (Reps.none _ _))))); intro v132 w16 ho17 hb hg_ hnew_; clear hg_ hnew_; (first | rw [← Ny131.out] at ho17 | (simp only [Int.reduceToNat] at ho17; rw [← Ny131.out] at ho17)); have n0_ := Aside0.mk (Kd.R_lower ho17 (below_size (by repeat (first | (with_reducible first | exact HB.out | apply below_alloc | apply pw_below_drewN | apply below_drew1 | refine below_set ?_ GE130.out) | exact HB.out)))); have n1_ := Aside0.mk (blk_below (g := gb130) (o := .cells #[.int .i64 5, .int .i64 3] 58 (0, 0)) (by (with_reducible repeat (first | refine blk_drewN ?_ _ | refine blk_drew ?_ | refine blk_alloc ?_ _)); refine blk_put (cs := #[.int .i64 5, .int .i64 0]) ?_ 1 _ rfl; (with_reducible repeat (first | refine blk_drewN ?_ _ | refine blk_drew ?_ | refine blk_alloc ?_ _)); refine blk_put (cs := #[.int .i64 0, .int .i64 0]) ?_ 0 _ rfl; (with_reducible repeat (first | refine blk_drewN ?_ _ | refine blk_drew ?_ | refine blk_alloc ?_ _)); exact BK130.out) hb); have n2_ := Aside0.mk (below_step (by repeat (first | (with_reducible first | exact HB.out | apply below_alloc | apply pw_below_drewN | apply below_drew1 | refine below_set ?_ GE130.out) | exact HB.out)) hb); clear BK130; clear HB; have HO133 := n0_; have BK130 := n1_; have HB := n2_; clear n0_ n1_ n2_; clear hb ho17; obtain ⟨Ao18, co18, eo18⟩ := Kd.R_slice HO133.out; subst eo18) | ((with_reducible refine gate_callee (f := 50) rfl ?_); refine goesL_ (some 14) rfl rfl Try.func50 (by kernel_rfl) rfl #[.agg #[.int .i64 5, .int .i64 3], .slice Ao18 y131.length co18, .int .i64 6, .int .i64 2] rfl (by (try simp only [List.map_toArray, List.map_cons, List.map_nil]); first | done | rfl | (simp only [List.length_drop, List.length_take]; rfl)) ?_; (with_reducible refine (cells_Words.calls k 5 3 _ _ y131 6 2 t134 t137 _ ?side1 ?side2 A1.out).mono ?_); (case side1 => repeat (first | exact (Kd.R_reads' HO133.out).2.2 | (with_reducible refine Kd.C_alloc ?_ _) | (with_reducible refine Kd.C_drewN ?_ _) | (with_reducible refine Kd.C_drew ?_))); (case side2 => exact (Kd.R_reads' HO133.out).2.1); rintro e w19 ⟨v135, rfl, ho0, hb⟩; refine ⟨_, rfl, ?_⟩; have n0_ := Aside0.mk (Kd.R_elder' (by (with_reducible repeat (first | apply Kd.R_alloc | apply Kd.R_drewN | apply Kd.R_drew)); exact HO133.out) (Kd.R_base ho0) hb); have n1_ := Aside0.mk (Kd.R_lower (Kd.R_new' ho0 (Kd.R_lt (by (with_reducible repeat (first | apply Kd.R_alloc | apply Kd.R_drewN | apply Kd.R_drew)); exact HO133.out))) (below_size (by repeat (first | (with_reducible first | exact HB.out | apply below_alloc | apply pw_below_drewN | apply below_drew1 | refine below_set ?_ GE130.out) | exact HB.out)))); have n2_ := Aside0.mk (blk_below (g := gb130) (o := .cells #[.int .i64 5, .int .i64 3] 58 (0, 0)) (by (with_reducible repeat (first | refine blk_drewN ?_ _ | refine blk_drew ?_ | refine blk_alloc ?_ _)); exact BK130.out) hb); have n3_ := Aside0.mk (below_step (by repeat (first | (with_reducible first | exact HB.out | apply below_alloc | apply pw_below_drewN | apply below_drew1 | refine below_set ?_ GE130.out) | exact HB.out)) hb); clear HO133; clear BK130; clear HB; have HO133 := n0_; have HO136 := n1_; have BK130 := n2_; have HB := n3_; clear n0_ n1_ n2_ n3_; (try clear hb); (try clear hb2); (try clear hk); (try clear hi); (try clear ho0); have hcz20_0 : w19.cell? ⟨gb130, 0, none⟩ = some (.int .i64 5) := (blk_cell BK130.out 0).trans rfl; have hcz20_1 : w19.cell? ⟨gb130, 1, none⟩ = some (.int .i64 3) := (blk_cell BK130.out 1).trans rfl; have hfz20_0 := blk_frozen BK130.out 0; have hfz20_1 := blk_frozen BK130.out 1) | ((with_reducible refine gate_dst (N := 19) rfl ?_); (try (refine gate_guard (by rfl) ?_; dsimp only)); refine Kd.R_lit (Kd.int .u16) _ 45 ?hg (N := 19) ?hd (xs := ([7, 8, 9] : List Int)) (inner := [.int .u16 7, .int .u16 8, .int .u16 9]) (ok := fun _ => True) (okp := fun _ => True) ?hr ?hp (fun _ hk => hk) trivial (Below.refl _ _) (Nat.le_refl _) (by simp) ?_; (case hd => rfl); (case hg => rfl); (case hr => first | (go_simp; done) | (go_simp; rfl)); (case hp => exact (Reps.one (show Kd.M (Kd.int .u16) _ _ _ 7 [.int .u16 7] from rfl) (Reps.one (show Kd.M (Kd.int .u16) _ _ _ 8 [.int .u16 8] from rfl) (Reps.one (show Kd.M (Kd.int .u16) _ _ _ 9 [.int .u16 9] from rfl) (Reps.none _ _))))); intro v139 w21 ho22 hb hg_ hnew_; clear hg_ hnew_; (first | rw [← Ny138.out] at ho22 | (simp only [Int.reduceToNat] at ho22; rw [← Ny138.out] at ho22)); have n0_ := Aside0.mk (Kd.R_elder' (by (with_reducible repeat (first | apply Kd.R_alloc | apply Kd.R_drewN | apply Kd.R_drew)); exact HO133.out) (Kd.R_base ho22) hb); have n1_ := Aside0.mk (Kd.R_elder' (by (with_reducible repeat (first | apply Kd.R_alloc | apply Kd.R_drewN | apply Kd.R_drew)); exact HO136.out) (Kd.R_base ho22) hb); have n2_ := Aside0.mk (Kd.R_lower (Kd.R_new' (Kd.R_new' ho22 (Kd.R_lt (by (with_reducible repeat (first | apply Kd.R_alloc | apply Kd.R_drewN | apply Kd.R_drew)); exact HO133.out))) (Kd.R_lt (by (with_reducible repeat (first | apply Kd.R_alloc | apply Kd.R_drewN | apply Kd.R_drew)); exact HO136.out))) (below_size (by repeat (first | (with_reducible first | exact HB.out | apply below_alloc | apply pw_below_drewN | apply below_drew1 | refine below_set ?_ GE130.out) | exact HB.out)))); have n3_ := Aside0.mk (blk_below (g := gb130) (o := .cells #[.int .i64 5, .int .i64 3] 58 (0, 0)) (by (with_reducible repeat (first | refine blk_drewN ?_ _ | refine blk_drew ?_ | refine blk_alloc ?_ _)); exact BK130.out) hb); have n4_ := Aside0.mk (below_step (by repeat (first | (with_reducible first | exact HB.out | apply below_alloc | apply pw_below_drewN | apply below_drew1 | refine below_set ?_ GE130.out) | exact HB.out)) hb); clear HO133; clear HO136; clear BK130; clear HB; have HO133 := n0_; have HO136 := n1_; have HO140 := n2_; have BK130 := n3_; have HB := n4_; clear n0_ n1_ n2_ n3_ n4_; clear hb ho22; obtain ⟨Ao23, co23, eo23⟩ := Kd.R_slice HO140.out; subst eo23) | ((with_reducible refine gate_callee (f := 50) rfl ?_); refine goesL_ (some 20) rfl rfl Try.func50 (by kernel_rfl) rfl #[.agg #[.int .i64 5, .int .i64 3], .slice Ao23 y138.length co23, .int .i64 7, .int .i64 2] rfl (by (try simp only [List.map_toArray, List.map_cons, List.map_nil]); first | done | rfl | (simp only [List.length_drop, List.length_take]; rfl)) ?_; (with_reducible refine (cells_Words.calls k 5 3 _ _ y138 7 2 t141 t144 _ ?side1 ?side2 A2.out).mono ?_); (case side1 => repeat (first | exact (Kd.R_reads' HO140.out).2.2 | (with_reducible refine Kd.C_alloc ?_ _) | (with_reducible refine Kd.C_drewN ?_ _) | (with_reducible refine Kd.C_drew ?_))); (case side2 => exact (Kd.R_reads' HO140.out).2.1); rintro e w24 ⟨v142, rfl, ho0, hb⟩; refine ⟨_, rfl, ?_⟩; have n0_ := Aside0.mk (Kd.R_elder' (by (with_reducible repeat (first | apply Kd.R_alloc | apply Kd.R_drewN | apply Kd.R_drew)); exact HO133.out) (Kd.R_base ho0) hb); have n1_ := Aside0.mk (Kd.R_elder' (by (with_reducible repeat (first | apply Kd.R_alloc | apply Kd.R_drewN | apply Kd.R_drew)); exact HO136.out) (Kd.R_base ho0) hb); have n2_ := Aside0.mk (Kd.R_elder' (by (with_reducible repeat (first | apply Kd.R_alloc | apply Kd.R_drewN | apply Kd.R_drew)); exact HO140.out) (Kd.R_base ho0) hb); have n3_ := Aside0.mk (Kd.R_lower (Kd.R_new' (Kd.R_new' (Kd.R_new' ho0 (Kd.R_lt (by (with_reducible repeat (first | apply Kd.R_alloc | apply Kd.R_drewN | apply Kd.R_drew)); exact HO133.out))) (Kd.R_lt (by (with_reducible repeat (first | apply Kd.R_alloc | apply Kd.R_drewN | apply Kd.R_drew)); exact HO136.out))) (Kd.R_lt (by (with_reducible repeat (first | apply Kd.R_alloc | apply Kd.R_drewN | apply Kd.R_drew)); exact HO140.out))) (below_size (by repeat (first | (with_reducible first | exact HB.out | apply below_alloc | apply pw_below_drewN | apply below_drew1 | refine below_set ?_ GE130.out) | exact HB.out)))); have n4_ := Aside0.mk (blk_below (g := gb130) (o := .cells #[.int .i64 5, .int .i64 3] 58 (0, 0)) (by (with_reducible repeat (first | refine blk_drewN ?_ _ | refine blk_drew ?_ | refine blk_alloc ?_ _)); exact BK130.out) hb); have n5_ := Aside0.mk (below_step (by repeat (first | (with_reducible first | exact HB.out | apply below_alloc | apply pw_below_drewN | apply below_drew1 | refine below_set ?_ GE130.out) | exact HB.out)) hb); clear HO133; clear HO136; clear HO140; clear BK130; clear HB; have HO133 := n0_; have HO136 := n1_; have HO140 := n2_; have HO143 := n3_; have BK130 := n4_; have HB := n5_; clear n0_ n1_ n2_ n3_ n4_ n5_; (try clear hb); (try clear hb2); (try clear hk); (try clear hi); (try clear ho0); have hcz25_0 : w24.cell? ⟨gb130, 0, none⟩ = some (.int .i64 5) := (blk_cell BK130.out 0).trans rfl; have hcz25_1 : w24.cell? ⟨gb130, 1, none⟩ = some (.int .i64 3) := (blk_cell BK130.out 1).trans rfl; have hfz25_0 := blk_frozen BK130.out 0; have hfz25_1 := blk_frozen BK130.out 1) | ((with_reducible refine gate_dst (N := 25) rfl ?_); (try (refine gate_guard (by rfl) ?_; dsimp only)); refine Kd.R_lit Kd.bool _ 4 ?hg (N := 25) ?hd (xs := ([true, true, true] : List Bool)) (inner := [.bool true, .bool true, .bool true]) (ok := fun _ => True) (okp := fun _ => True) ?hr ?hp (fun _ hk => hk) trivial (Below.refl _ _) (Nat.le_refl _) (by simp) ?_; (case hd => rfl); (case hg => rfl); (case hr => first | (go_simp; done) | (go_simp; rfl)); (case hp => exact (Reps.one (show Kd.M Kd.bool _ _ _ true [.bool true] from rfl) (Reps.one (show Kd.M Kd.bool _ _ _ true [.bool true] from rfl) (Reps.one (show Kd.M Kd.bool _ _ _ true [.bool true] from rfl) (Reps.none _ _))))); intro v146 w26 ho27 hb hg_ hnew_; clear hg_ hnew_; (first | rw [← Ny145.out] at ho27 | (simp only [Int.reduceToNat] at ho27; rw [← Ny145.out] at ho27)); have n0_ := Aside0.mk (Kd.R_below (by (with_reducible repeat (first | apply Kd.R_alloc | apply Kd.R_drewN | apply Kd.R_drew)); exact HO133.out) hb); have n1_ := Aside0.mk (Kd.R_below (by (with_reducible repeat (first | apply Kd.R_alloc | apply Kd.R_drewN | apply Kd.R_drew)); exact HO136.out) hb); have n2_ := Aside0.mk (Kd.R_below (by (with_reducible repeat (first | apply Kd.R_alloc | apply Kd.R_drewN | apply Kd.R_drew)); exact HO140.out) hb); have n3_ := Aside0.mk (Kd.R_below (by (with_reducible repeat (first | apply Kd.R_alloc | apply Kd.R_drewN | apply Kd.R_drew)); exact HO143.out) hb); have n4_ := Aside0.mk (Kd.R_lower ho27 (below_size (by repeat (first | (with_reducible first | exact HB.out | apply below_alloc | apply pw_below_drewN | apply below_drew1 | refine below_set ?_ GE130.out) | exact HB.out)))); have n5_ := Aside0.mk (blk_below (g := gb130) (o := .cells #[.int .i64 5, .int .i64 3] 58 (0, 0)) (by (with_reducible repeat (first | refine blk_drewN ?_ _ | refine blk_drew ?_ | refine blk_alloc ?_ _)); exact BK130.out) hb); have n6_ := Aside0.mk (below_step (by repeat (first | (with_reducible first | exact HB.out | apply below_alloc | apply pw_below_drewN | apply below_drew1 | refine below_set ?_ GE130.out) | exact HB.out)) hb); clear HO133; clear HO136; clear HO140; clear HO143; clear BK130; clear HB; have HO133 := n0_; have HO136 := n1_; have HO140 := n2_; have HO143 := n3_; have HO147 := n4_; have BK130 := n5_; have HB := n6_; clear n0_ n1_ n2_ n3_ n4_ n5_ n6_; clear hb ho27) | ((with_reducible refine gate_dst (N := 26) rfl ?_); (try (refine gate_guard (by rfl) ?_; dsimp only)); refine Kd.R_lit Kd.bool _ 4 ?hg (N := 26) ?hd (xs := ([false] : List Bool)) (inner := [.bool false]) (ok := fun _ => True) (okp := fun _ => True) ?hr ?hp (fun _ hk => hk) trivial (Below.refl _ _) (Nat.le_refl _) (by simp) ?_; (case hd => rfl); (case hg => rfl); (case hr => first | (go_simp; done) | (go_simp; rfl)); (case hp => exact (Reps.one (show Kd.M Kd.bool _ _ _ false [.bool false] from rfl) (Reps.none _ _))); intro v149 w28 ho29 hb hg_ hnew_; clear hg_ hnew_; (first | rw [← Ny148.out] at ho29 | (simp only [Int.reduceToNat] at ho29; rw [← Ny148.out] at ho29)); have n0_ := Aside0.mk (Kd.R_below (by (with_reducible repeat (first | apply Kd.R_alloc | apply Kd.R_drewN | apply Kd.R_drew)); exact HO133.out) hb); have n1_ := Aside0.mk (Kd.R_below (by (with_reducible repeat (first | apply Kd.R_alloc | apply Kd.R_drewN | apply Kd.R_drew)); exact HO136.out) hb); have n2_ := Aside0.mk (Kd.R_below (by (with_reducible repeat (first | apply Kd.R_alloc | apply Kd.R_drewN | apply Kd.R_drew)); exact HO140.out) hb); have n3_ := Aside0.mk (Kd.R_below (by (with_reducible repeat (first | apply Kd.R_alloc | apply Kd.R_drewN | apply Kd.R_drew)); exact HO143.out) hb); have n4_ := Aside0.mk (Kd.R_elder' (by (with_reducible repeat (first | apply Kd.R_alloc | apply Kd.R_drewN | apply Kd.R_drew)); exact HO147.out) (Kd.R_base ho29) hb); have n5_ := Aside0.mk (Kd.R_lower (Kd.R_new' ho29 (Kd.R_lt (by (with_reducible repeat (first | apply Kd.R_alloc | apply Kd.R_drewN | apply Kd.R_drew)); exact HO147.out))) (below_size (by repeat (first | (with_reducible first | exact HB.out | apply below_alloc | apply pw_below_drewN | apply below_drew1 | refine below_set ?_ GE130.out) | exact HB.out)))); have n6_ := Aside0.mk (blk_below (g := gb130) (o := .cells #[.int .i64 5, .int .i64 3] 58 (0, 0)) (by (with_reducible repeat (first | refine blk_drewN ?_ _ | refine blk_drew ?_ | refine blk_alloc ?_ _)); exact BK130.out) hb); have n7_ := Aside0.mk (below_step (by repeat (first | (with_reducible first | exact HB.out | apply below_alloc | apply pw_below_drewN | apply below_drew1 | refine below_set ?_ GE130.out) | exact HB.out)) hb); clear HO133; clear HO136; clear HO140; clear HO143; clear HO147; clear BK130; clear HB; have HO133 := n0_; have HO136 := n1_; have HO140 := n2_; have HO143 := n3_; have HO147 := n4_; have HO150 := n5_; have BK130 := n6_; have HB := n7_; clear n0_ n1_ n2_ n3_ n4_ n5_ n6_ n7_; clear hb ho29; obtain ⟨Ao30, co30, eo30⟩ := Kd.R_slice HO147.out; subst eo30; obtain ⟨Ao31, co31, eo31⟩ := Kd.R_slice HO150.out; subst eo31) | ((with_reducible refine gate_callee (f := 58) rfl ?_); refine goesL_ (some 27) rfl rfl Try.func58 (by kernel_rfl) rfl #[.agg #[.int .i64 5, .int .i64 3], .slice Ao30 y145.length co30, .int .i64 7, .slice Ao31 y148.length co31] rfl (by (try simp only [List.map_toArray, List.map_cons, List.map_nil]); first | done | rfl | (simp only [List.length_drop, List.length_take]; rfl)) ?_; (with_reducible refine (cells_SetBits.calls k 5 3 _ _ y145 7 _ _ y148 t151 t154 _ ?side1 ?side2 ?side3 ?side4 A3.out).mono ?_); (case side1 => repeat (first | exact (Kd.R_reads' HO147.out).2.2 | (with_reducible refine Kd.C_alloc ?_ _) | (with_reducible refine Kd.C_drewN ?_ _) | (with_reducible refine Kd.C_drew ?_))); (case side2 => exact (Kd.R_reads' HO147.out).2.1); (case side3 => repeat (first | exact (Kd.R_reads' HO150.out).2.2 | (with_reducible refine Kd.C_alloc ?_ _) | (with_reducible refine Kd.C_drewN ?_ _) | (with_reducible refine Kd.C_drew ?_))); (case side4 => exact (Kd.R_reads' HO150.out).2.1); rintro e w32 ⟨v152, rfl, ho0, hb⟩; refine ⟨_, rfl, ?_⟩; have n0_ := Aside0.mk (Kd.R_below (by (with_reducible repeat (first | apply Kd.R_alloc | apply Kd.R_drewN | apply Kd.R_drew)); exact HO133.out) hb); have n1_ := Aside0.mk (Kd.R_below (by (with_reducible repeat (first | apply Kd.R_alloc | apply Kd.R_drewN | apply Kd.R_drew)); exact HO136.out) hb); have n2_ := Aside0.mk (Kd.R_below (by (with_reducible repeat (first | apply Kd.R_alloc | apply Kd.R_drewN | apply Kd.R_drew)); exact HO140.out) hb); have n3_ := Aside0.mk (Kd.R_below (by (with_reducible repeat (first | apply Kd.R_alloc | apply Kd.R_drewN | apply Kd.R_drew)); exact HO143.out) hb); have n4_ := Aside0.mk (Kd.R_elder' (by (with_reducible repeat (first | apply Kd.R_alloc | apply Kd.R_drewN | apply Kd.R_drew)); exact HO147.out) (Kd.R_base ho0) hb); have n5_ := Aside0.mk (Kd.R_elder' (by (with_reducible repeat (first | apply Kd.R_alloc | apply Kd.R_drewN | apply Kd.R_drew)); exact HO150.out) (Kd.R_base ho0) hb); have n6_ := Aside0.mk (Kd.R_lower (Kd.R_new' (Kd.R_new' ho0 (Kd.R_lt (by (with_reducible repeat (first | apply Kd.R_alloc | apply Kd.R_drewN | apply Kd.R_drew)); exact HO147.out))) (Kd.R_lt (by (with_reducible repeat (first | apply Kd.R_alloc | apply Kd.R_drewN | apply Kd.R_drew)); exact HO150.out))) (below_size (by repeat (first | (with_reducible first | exact HB.out | apply below_alloc | apply pw_below_drewN | apply below_drew1 | refine below_set ?_ GE130.out) | exact HB.out)))); have n7_ := Aside0.mk (blk_below (g := gb130) (o := .cells #[.int .i64 5, .int .i64 3] 58 (0, 0)) (by (with_reducible repeat (first | refine blk_drewN ?_ _ | refine blk_drew ?_ | refine blk_alloc ?_ _)); exact BK130.out) hb); have n8_ := Aside0.mk (below_step (by repeat (first | (with_reducible first | exact HB.out | apply below_alloc | apply pw_below_drewN | apply below_drew1 | refine below_set ?_ GE130.out) | exact HB.out)) hb); clear HO133; clear HO136; clear HO140; clear HO143; clear HO147; clear HO150; clear BK130; clear HB; have HO133 := n0_; have HO136 := n1_; have HO140 := n2_; have HO143 := n3_; have HO147 := n4_; have HO150 := n5_; have HO153 := n6_; have BK130 := n7_; have HB := n8_; clear n0_ n1_ n2_ n3_ n4_ n5_ n6_ n7_ n8_; (try clear hb); (try clear hb2); (try clear hk); (try clear hi); (try clear ho0); have hcz33_0 : w32.cell? ⟨gb130, 0, none⟩ = some (.int .i64 5) := (blk_cell BK130.out 0).trans rfl; have hcz33_1 : w32.cell? ⟨gb130, 1, none⟩ = some (.int .i64 3) := (blk_cell BK130.out 1).trans rfl; have hfz33_0 := blk_frozen BK130.out 0; have hfz33_1 := blk_frozen BK130.out 1) | ((with_reducible refine gate_dst (N := 32) rfl ?_); (try (refine gate_guard (by rfl) ?_; dsimp only)); refine Kd.R_lit (Kd.int .u16) _ 45 ?hg (N := 32) ?hd (xs := ([1] : List Int)) (inner := [.int .u16 1]) (ok := fun _ => True) (okp := fun _ => True) ?hr ?hp (fun _ hk => hk) trivial (Below.refl _ _) (Nat.le_refl _) (by simp) ?_; (case hd => rfl); (case hg => rfl); (case hr => first | (go_simp; done) | (go_simp; rfl)); (case hp => exact (Reps.one (show Kd.M (Kd.int .u16) _ _ _ 1 [.int .u16 1] from rfl) (Reps.none _ _))); intro v156 w34 ho35 hb hg_ hnew_; clear hg_ hnew_; (first | rw [← Ny155.out] at ho35 | (simp only [Int.reduceToNat] at ho35; rw [← Ny155.out] at ho35)); have n0_ := Aside0.mk (Kd.R_elder' (by (with_reducible repeat (first | apply Kd.R_alloc | apply Kd.R_drewN | apply Kd.R_drew)); exact HO133.out) (Kd.R_base ho35) hb); have n1_ := Aside0.mk (Kd.R_elder' (by (with_reducible repeat (first | apply Kd.R_alloc | apply Kd.R_drewN | apply Kd.R_drew)); exact HO136.out) (Kd.R_base ho35) hb); have n2_ := Aside0.mk (Kd.R_elder' (by (with_reducible repeat (first | apply Kd.R_alloc | apply Kd.R_drewN | apply Kd.R_drew)); exact HO140.out) (Kd.R_base ho35) hb); have n3_ := Aside0.mk (Kd.R_elder' (by (with_reducible repeat (first | apply Kd.R_alloc | apply Kd.R_drewN | apply Kd.R_drew)); exact HO143.out) (Kd.R_base ho35) hb); have n4_ := Aside0.mk (Kd.R_below (by (with_reducible repeat (first | apply Kd.R_alloc | apply Kd.R_drewN | apply Kd.R_drew)); exact HO147.out) hb); have n5_ := Aside0.mk (Kd.R_below (by (with_reducible repeat (first | apply Kd.R_alloc | apply Kd.R_drewN | apply Kd.R_drew)); exact HO150.out) hb); have n6_ := Aside0.mk (Kd.R_below (by (with_reducible repeat (first | apply Kd.R_alloc | apply Kd.R_drewN | apply Kd.R_drew)); exact HO153.out) hb); have n7_ := Aside0.mk (Kd.R_lower (Kd.R_new' (Kd.R_new' (Kd.R_new' (Kd.R_new' ho35 (Kd.R_lt (by (with_reducible repeat (first | apply Kd.R_alloc | apply Kd.R_drewN | apply Kd.R_drew)); exact HO133.out))) (Kd.R_lt (by (with_reducible repeat (first | apply Kd.R_alloc | apply Kd.R_drewN | apply Kd.R_drew)); exact HO136.out))) (Kd.R_lt (by (with_reducible repeat (first | apply Kd.R_alloc | apply Kd.R_drewN | apply Kd.R_drew)); exact HO140.out))) (Kd.R_lt (by (with_reducible repeat (first | apply Kd.R_alloc | apply Kd.R_drewN | apply Kd.R_drew)); exact HO143.out))) (below_size (by repeat (first | (with_reducible first | exact HB.out | apply below_alloc | apply pw_below_drewN | apply below_drew1 | refine below_set ?_ GE130.out) | exact HB.out)))); have n8_ := Aside0.mk (blk_below (g := gb130) (o := .cells #[.int .i64 5, .int .i64 3] 58 (0, 0)) (by (with_reducible repeat (first | refine blk_drewN ?_ _ | refine blk_drew ?_ | refine blk_alloc ?_ _)); exact BK130.out) hb); have n9_ := Aside0.mk (below_step (by repeat (first | (with_reducible first | exact HB.out | apply below_alloc | apply pw_below_drewN | apply below_drew1 | refine below_set ?_ GE130.out) | exact HB.out)) hb); clear HO133; clear HO136; clear HO140; clear HO143; clear HO147; clear HO150; clear HO153; clear BK130; clear HB; have HO133 := n0_; have HO136 := n1_; have HO140 := n2_; have HO143 := n3_; have HO147 := n4_; have HO150 := n5_; have HO153 := n6_; have HO157 := n7_; have BK130 := n8_; have HB := n9_; clear n0_ n1_ n2_ n3_ n4_ n5_ n6_ n7_ n8_ n9_; clear hb ho35; obtain ⟨Ao36, co36, eo36⟩ := Kd.R_slice HO157.out; subst eo36) | ((with_reducible refine gate_callee (f := 52) rfl ?_); refine goesL_ (some 33) rfl rfl Try.func52 (by kernel_rfl) rfl #[.agg #[.int .i64 5, .int .i64 3], .slice none 0 0, .int .i64 5, .slice Ao36 y155.length co36] rfl (by (try simp only [List.map_toArray, List.map_cons, List.map_nil]); first | done | rfl | (simp only [List.length_drop, List.length_take]; rfl)) ?_; (refine (cells_SetWords.calls k 5 3 _ _ ([] : List Int) 5 _ _ y155 t158 t161 _ ?side1 ?side2 ?side3 ?side4 A4.out).mono ?_); (case side1 => exact Kd.C_nil _ _); (case side2 => exact Nat.le_refl _); (case side3 => repeat (first | exact (Kd.R_reads' HO157.out).2.2 | (with_reducible refine Kd.C_alloc ?_ _) | (with_reducible refine Kd.C_drewN ?_ _) | (with_reducible refine Kd.C_drew ?_))); (case side4 => exact (Kd.R_reads' HO157.out).2.1); rintro e w37 ⟨v159, rfl, ho0, hb⟩; refine ⟨_, rfl, ?_⟩; have n0_ := Aside0.mk (Kd.R_elder' (by (with_reducible repeat (first | apply Kd.R_alloc | apply Kd.R_drewN | apply Kd.R_drew)); exact HO133.out) (Kd.R_base ho0) hb); have n1_ := Aside0.mk (Kd.R_elder' (by (with_reducible repeat (first | apply Kd.R_alloc | apply Kd.R_drewN | apply Kd.R_drew)); exact HO136.out) (Kd.R_base ho0) hb); have n2_ := Aside0.mk (Kd.R_elder' (by (with_reducible repeat (first | apply Kd.R_alloc | apply Kd.R_drewN | apply Kd.R_drew)); exact HO140.out) (Kd.R_base ho0) hb); have n3_ := Aside0.mk (Kd.R_elder' (by (with_reducible repeat (first | apply Kd.R_alloc | apply Kd.R_drewN | apply Kd.R_drew)); exact HO143.out) (Kd.R_base ho0) hb); have n4_ := Aside0.mk (Kd.R_below (by (with_reducible repeat (first | apply Kd.R_alloc | apply Kd.R_drewN | apply Kd.R_drew)); exact HO147.out) hb); have n5_ := Aside0.mk (Kd.R_below (by (with_reducible repeat (first | apply Kd.R_alloc | apply Kd.R_drewN | apply Kd.R_drew)); exact HO150.out) hb); have n6_ := Aside0.mk (Kd.R_below (by (with_reducible repeat (first | apply Kd.R_alloc | apply Kd.R_drewN | apply Kd.R_drew)); exact HO153.out) hb); have n7_ := Aside0.mk (Kd.R_elder' (by (with_reducible repeat (first | apply Kd.R_alloc | apply Kd.R_drewN | apply Kd.R_drew)); exact HO157.out) (Kd.R_base ho0) hb); have n8_ := Aside0.mk (Kd.R_lower (Kd.R_new' (Kd.R_new' (Kd.R_new' (Kd.R_new' (Kd.R_new' ho0 (Kd.R_lt (by (with_reducible repeat (first | apply Kd.R_alloc | apply Kd.R_drewN | apply Kd.R_drew)); exact HO133.out))) (Kd.R_lt (by (with_reducible repeat (first | apply Kd.R_alloc | apply Kd.R_drewN | apply Kd.R_drew)); exact HO136.out))) (Kd.R_lt (by (with_reducible repeat (first | apply Kd.R_alloc | apply Kd.R_drewN | apply Kd.R_drew)); exact HO140.out))) (Kd.R_lt (by (with_reducible repeat (first | apply Kd.R_alloc | apply Kd.R_drewN | apply Kd.R_drew)); exact HO143.out))) (Kd.R_lt (by (with_reducible repeat (first | apply Kd.R_alloc | apply Kd.R_drewN | apply Kd.R_drew)); exact HO157.out))) (below_size (by repeat (first | (with_reducible first | exact HB.out | apply below_alloc | apply pw_below_drewN | apply below_drew1 | refine below_set ?_ GE130.out) | exact HB.out)))); have n9_ := Aside0.mk (blk_below (g := gb130) (o := .cells #[.int .i64 5, .int .i64 3] 58 (0, 0)) (by (with_reducible repeat (first | refine blk_drewN ?_ _ | refine blk_drew ?_ | refine blk_alloc ?_ _)); exact BK130.out) hb); have n10_ := Aside0.mk (below_step (by repeat (first | (with_reducible first | exact HB.out | apply below_alloc | apply pw_below_drewN | apply below_drew1 | refine below_set ?_ GE130.out) | exact HB.out)) hb); clear HO133; clear HO136; clear HO140; clear HO143; clear HO147; clear HO150; clear HO153; clear HO157; clear BK130; clear HB; have HO133 := n0_; have HO136 := n1_; have HO140 := n2_; have HO143 := n3_; have HO147 := n4_; have HO150 := n5_; have HO153 := n6_; have HO157 := n7_; have HO160 := n8_; have BK130 := n9_; have HB := n10_; clear n0_ n1_ n2_ n3_ n4_ n5_ n6_ n7_ n8_ n9_ n10_; (try clear hb); (try clear hb2); (try clear hk); (try clear hi); (try clear ho0)) | ((with_reducible refine gate_dst (N := 40) rfl ?_); (try (refine gate_guard (by rfl) ?_; dsimp only)); refine Kd.R_lit (Kd.int .u16) _ 45 ?hg (N := 40) ?hd (xs := ([8, 9] : List Int)) (inner := [.int .u16 8, .int .u16 9]) (ok := fun _ => True) (okp := fun _ => True) ?hr ?hp (fun _ hk => hk) trivial (Below.refl _ _) (Nat.le_refl _) (by simp) ?_; (case hd => rfl); (case hg => rfl); (case hr => first | (go_simp; done) | (go_simp; rfl)); (case hp => exact (Reps.one (show Kd.M (Kd.int .u16) _ _ _ 8 [.int .u16 8] from rfl) (Reps.one (show Kd.M (Kd.int .u16) _ _ _ 9 [.int .u16 9] from rfl) (Reps.none _ _)))); intro v163 w38 ho39 hb hg_ hnew_; clear hg_ hnew_; (first | rw [← Ny162.out] at ho39 | (simp only [Int.reduceToNat] at ho39; rw [← Ny162.out] at ho39)); have n0_ := Aside0.mk (Kd.R_elder' (by (with_reducible repeat (first | apply Kd.R_alloc | apply Kd.R_drewN | apply Kd.R_drew)); exact HO133.out) (Kd.R_base ho39) hb); have n1_ := Aside0.mk (Kd.R_elder' (by (with_reducible repeat (first | apply Kd.R_alloc | apply Kd.R_drewN | apply Kd.R_drew)); exact HO136.out) (Kd.R_base ho39) hb); have n2_ := Aside0.mk (Kd.R_elder' (by (with_reducible repeat (first | apply Kd.R_alloc | apply Kd.R_drewN | apply Kd.R_drew)); exact HO140.out) (Kd.R_base ho39) hb); have n3_ := Aside0.mk (Kd.R_elder' (by (with_reducible repeat (first | apply Kd.R_alloc | apply Kd.R_drewN | apply Kd.R_drew)); exact HO143.out) (Kd.R_base ho39) hb); have n4_ := Aside0.mk (Kd.R_below (by (with_reducible repeat (first | apply Kd.R_alloc | apply Kd.R_drewN | apply Kd.R_drew)); exact HO147.out) hb); have n5_ := Aside0.mk (Kd.R_below (by (with_reducible repeat (first | apply Kd.R_alloc | apply Kd.R_drewN | apply Kd.R_drew)); exact HO150.out) hb); have n6_ := Aside0.mk (Kd.R_below (by (with_reducible repeat (first | apply Kd.R_alloc | apply Kd.R_drewN | apply Kd.R_drew)); exact HO153.out) hb); have n7_ := Aside0.mk (Kd.R_elder' (by (with_reducible repeat (first | apply Kd.R_alloc | apply Kd.R_drewN | apply Kd.R_drew)); exact HO157.out) (Kd.R_base ho39) hb); have n8_ := Aside0.mk (Kd.R_elder' (by (with_reducible repeat (first | apply Kd.R_alloc | apply Kd.R_drewN | apply Kd.R_drew)); exact HO160.out) (Kd.R_base ho39) hb); have n9_ := Aside0.mk (Kd.R_lower (Kd.R_new' (Kd.R_new' (Kd.R_new' (Kd.R_new' (Kd.R_new' (Kd.R_new' ho39 (Kd.R_lt (by (with_reducible repeat (first | apply Kd.R_alloc | apply Kd.R_drewN | apply Kd.R_drew)); exact HO133.out))) (Kd.R_lt (by (with_reducible repeat (first | apply Kd.R_alloc | apply Kd.R_drewN | apply Kd.R_drew)); exact HO136.out))) (Kd.R_lt (by (with_reducible repeat (first | apply Kd.R_alloc | apply Kd.R_drewN | apply Kd.R_drew)); exact HO140.out))) (Kd.R_lt (by (with_reducible repeat (first | apply Kd.R_alloc | apply Kd.R_drewN | apply Kd.R_drew)); exact HO143.out))) (Kd.R_lt (by (with_reducible repeat (first | apply Kd.R_alloc | apply Kd.R_drewN | apply Kd.R_drew)); exact HO157.out))) (Kd.R_lt (by (with_reducible repeat (first | apply Kd.R_alloc | apply Kd.R_drewN | apply Kd.R_drew)); exact HO160.out))) (below_size (by repeat (first | (with_reducible first | exact HB.out | apply below_alloc | apply pw_below_drewN | apply below_drew1 | refine below_set ?_ GE130.out) | exact HB.out)))); have n10_ := Aside0.mk (blk_below (g := gb130) (o := .cells #[.int .i64 5, .int .i64 3] 58 (0, 0)) (by (with_reducible repeat (first | refine blk_drewN ?_ _ | refine blk_drew ?_ | refine blk_alloc ?_ _)); exact BK130.out) hb); have n11_ := Aside0.mk (below_step (by repeat (first | (with_reducible first | exact HB.out | apply below_alloc | apply pw_below_drewN | apply below_drew1 | refine below_set ?_ GE130.out) | exact HB.out)) hb); clear HO133; clear HO136; clear HO140; clear HO143; clear HO147; clear HO150; clear HO153; clear HO157; clear HO160; clear BK130; clear HB; have HO133 := n0_; have HO136 := n1_; have HO140 := n2_; have HO143 := n3_; have HO147 := n4_; have HO150 := n5_; have HO153 := n6_; have HO157 := n7_; have HO160 := n8_; have HO164 := n9_; have BK130 := n10_; have HB := n11_; clear n0_ n1_ n2_ n3_ n4_ n5_ n6_ n7_ n8_ n9_ n10_ n11_; clear hb ho39; obtain ⟨Ao40, co40, eo40⟩ := Kd.R_slice HO136.out; subst eo40; obtain ⟨Ao41, co41, eo41⟩ := Kd.R_slice HO164.out; subst eo41) | (go_at_call 35; (with_reducible refine (bilgeref01_Words.calls k _ _ t134 _ _ y162 true _ ?side1 ?side2 ?side3 ?side4 A6.out).mono ?_); (case side1 => repeat (first | exact (Kd.R_reads' HO136.out).2.2 | (with_reducible refine Kd.C_alloc ?_ _) | (with_reducible refine Kd.C_drewN ?_ _) | (with_reducible refine Kd.C_drew ?_))); (case side2 => exact (Kd.R_reads' HO136.out).2.1); (case side3 => repeat (first | exact (Kd.R_reads' HO164.out).2.2 | (with_reducible refine Kd.C_alloc ?_ _) | (with_reducible refine Kd.C_drewN ?_ _) | (with_reducible refine Kd.C_drew ?_))); (case side4 => exact (Kd.R_reads' HO164.out).2.1); rintro e w' ⟨rfl, ⟨nd, rfl⟩⟩) | ((with_reducible refine gate_dst (N := 53) rfl ?_); (try (refine gate_guard (by rfl) ?_; dsimp only)); refine Kd.R_lit Kd.bool _ 4 ?hg (N := 53) ?hd (xs := ([true, true, false] : List Bool)) (inner := [.bool true, .bool true, .bool false]) (ok := fun _ => True) (okp := fun _ => True) ?hr ?hp (fun _ hk => hk) trivial (Below.refl _ _) (Nat.le_refl _) (by simp) ?_; (case hd => rfl); (case hg => rfl); (case hr => first | (go_simp; done) | (go_simp; rfl)); (case hp => exact (Reps.one (show Kd.M Kd.bool _ _ _ true [.bool true] from rfl) (Reps.one (show Kd.M Kd.bool _ _ _ true [.bool true] from rfl) (Reps.one (show Kd.M Kd.bool _ _ _ false [.bool false] from rfl) (Reps.none _ _))))); intro v167 w42 ho43 hb hg_ hnew_; clear hg_ hnew_; (first | rw [← Ny166.out] at ho43 | (simp only [Int.reduceToNat] at ho43; rw [← Ny166.out] at ho43)); have n0_ := Aside0.mk (Kd.R_below (by (with_reducible repeat (first | apply Kd.R_alloc | apply Kd.R_drewN | apply Kd.R_drew)); exact HO133.out) hb); have n1_ := Aside0.mk (Kd.R_below (by (with_reducible repeat (first | apply Kd.R_alloc | apply Kd.R_drewN | apply Kd.R_drew)); exact HO136.out) hb); have n2_ := Aside0.mk (Kd.R_below (by (with_reducible repeat (first | apply Kd.R_alloc | apply Kd.R_drewN | apply Kd.R_drew)); exact HO140.out) hb); have n3_ := Aside0.mk (Kd.R_below (by (with_reducible repeat (first | apply Kd.R_alloc | apply Kd.R_drewN | apply Kd.R_drew)); exact HO143.out) hb); have n4_ := Aside0.mk (Kd.R_elder' (by (with_reducible repeat (first | apply Kd.R_alloc | apply Kd.R_drewN | apply Kd.R_drew)); exact HO147.out) (Kd.R_base ho43) hb); have n5_ := Aside0.mk (Kd.R_elder' (by (with_reducible repeat (first | apply Kd.R_alloc | apply Kd.R_drewN | apply Kd.R_drew)); exact HO150.out) (Kd.R_base ho43) hb); have n6_ := Aside0.mk (Kd.R_elder' (by (with_reducible repeat (first | apply Kd.R_alloc | apply Kd.R_drewN | apply Kd.R_drew)); exact HO153.out) (Kd.R_base ho43) hb); have n7_ := Aside0.mk (Kd.R_below (by (with_reducible repeat (first | apply Kd.R_alloc | apply Kd.R_drewN | apply Kd.R_drew)); exact HO157.out) hb); have n8_ := Aside0.mk (Kd.R_below (by (with_reducible repeat (first | apply Kd.R_alloc | apply Kd.R_drewN | apply Kd.R_drew)); exact HO160.out) hb); have n9_ := Aside0.mk (Kd.R_below (by (with_reducible repeat (first | apply Kd.R_alloc | apply Kd.R_drewN | apply Kd.R_drew)); exact HO164.out) hb); have n10_ := Aside0.mk (Kd.R_lower (Kd.R_new' (Kd.R_new' (Kd.R_new' ho43 (Kd.R_lt (by (with_reducible repeat (first | apply Kd.R_alloc | apply Kd.R_drewN | apply Kd.R_drew)); exact HO147.out))) (Kd.R_lt (by (with_reducible repeat (first | apply Kd.R_alloc | apply Kd.R_drewN | apply Kd.R_drew)); exact HO150.out))) (Kd.R_lt (by (with_reducible repeat (first | apply Kd.R_alloc | apply Kd.R_drewN | apply Kd.R_drew)); exact HO153.out))) (below_size (by repeat (first | (with_reducible first | exact HB.out | apply below_alloc | apply pw_below_drewN | apply below_drew1 | refine below_set ?_ GE130.out) | exact HB.out)))); have n11_ := Aside0.mk (blk_below (g := gb130) (o := .cells #[.int .i64 5, .int .i64 3] 58 (0, 0)) (by (with_reducible repeat (first | refine blk_drewN ?_ _ | refine blk_drew ?_ | refine blk_alloc ?_ _)); exact BK130.out) hb); have n12_ := Aside0.mk (below_step (by repeat (first | (with_reducible first | exact HB.out | apply below_alloc | apply pw_below_drewN | apply below_drew1 | refine below_set ?_ GE130.out) | exact HB.out)) hb); clear HO133; clear HO136; clear HO140; clear HO143; clear HO147; clear HO150; clear HO153; clear HO157; clear HO160; clear HO164; clear BK130; clear HB; have HO133 := n0_; have HO136 := n1_; have HO140 := n2_; have HO143 := n3_; have HO147 := n4_; have HO150 := n5_; have HO153 := n6_; have HO157 := n7_; have HO160 := n8_; have HO164 := n9_; have HO168 := n10_; have BK130 := n11_; have HB := n12_; clear n0_ n1_ n2_ n3_ n4_ n5_ n6_ n7_ n8_ n9_ n10_ n11_ n12_; clear hb ho43; obtain ⟨Ao44, co44, eo44⟩ := Kd.R_slice HO153.out; subst eo44; obtain ⟨Ao45, co45, eo45⟩ := Kd.R_slice HO168.out; subst eo45) | (go_at_call 60; (with_reducible refine (bilgeref02_Same.calls k _ _ t151 _ _ y166 true _ ?side1 ?side2 ?side3 ?side4 A10.out).mono ?_); (case side1 => repeat (first | exact (Kd.R_reads' HO153.out).2.2 | (with_reducible refine Kd.C_alloc ?_ _) | (with_reducible refine Kd.C_drewN ?_ _) | (with_reducible refine Kd.C_drew ?_))); (case side2 => exact (Kd.R_reads' HO153.out).2.1); (case side3 => repeat (first | exact (Kd.R_reads' HO168.out).2.2 | (with_reducible refine Kd.C_alloc ?_ _) | (with_reducible refine Kd.C_drewN ?_ _) | (with_reducible refine Kd.C_drew ?_))); (case side4 => exact (Kd.R_reads' HO168.out).2.1); rintro e w' ⟨rfl, ⟨nd, rfl⟩⟩) | (go_at_call 54; (with_reducible refine (cells_Mask.calls 18 242 37 t170 _ A13.out).mono ?_); rintro e w' ⟨rfl, ⟨nd, rfl⟩⟩))
       go_ret
       exact ⟨by first | rfl | (simp [errW_none, errW_some] <;> rfl) | (simp [*, errW_none, errW_some] <;> rfl), by repeat (first | (with_reducible first | exact HB.out | apply below_alloc | apply pw_below_drewN | apply below_drew1 | refine below_set ?_ GE130.out) | exact HB.out)⟩
      ·rw [if_neg c12] at H
       exact absurd H (by simp)
     ·replace c11 := Bool.eq_false_iff.mpr c11
      subst c11
      have H1 : (none) = some r := by rw [if_neg (show ¬ (false = true) by decide)] at H; exact H
      clear H
      have H := H1
      clear H1
      exact absurd H (by simp)
    ·rw [if_neg c9] at H
     exact absurd H (by simp)
   ·rw [if_neg c8] at H
    exact absurd H (by simp)
  ·replace c7 := Bool.eq_false_iff.mpr c7
   subst c7
   have H1 : (none) = some r := by rw [if_neg (show ¬ (false = true) by decide)] at H; exact H
   clear H
   have H := H1
   clear H1
   exact absurd H (by simp)
 ·rw [if_neg c5] at H
  exact absurd H (by simp)

end Go.Proofs.Ytmamkfnnoahcmaa.P
