-- Written by the session's own turn of the kit's print program (wip/patch_print.py). Not trusted: Lean checks it.
import Derived.Test.YtamcpmfimicnjaaPx0
import Derived.Test.YtamcpmfimicnjaaPx3
import Derived.Test.YtamcpmfimicnjaaPx8
namespace Go.Proofs.Ytamcpmfimicnjaa.P
open Go.RowKit Go.Proofs.YtamcpmfimicnjaaW.PrintWords Go.Proofs.YtamcpmfimicnjaaW.PrintLast Go.Proofs.YtamcpmfimicnjaaW.PrintMore
attribute [local go_sem] max2_int min2_int max_two min_two max_three min_three max_four min_four   -- for this text's walks alone
set_option linter.unusedVariables false
set_option linter.unusedSimpArgs false

/-! ### cells_read_uint16: function 54 -/
def cells_read_uint16.cut (l : List Int) (s n : Nat) : List Int := (l.drop s).take (min (l.length - s) n) ++ (List.replicate n (0 : Int)).drop (min (l.length - s) n)
def cells_read_uint16.f (k : Nat) (a0_0 a0_1 : Int) (l1 : List Int) (a2 a3 : Int) : Option (List Int × Int) :=
  (window_Right.f a0_0 a0_1).bind fun t1 => if t1 = true then (if (l1.length : Int) = a0_1 then (if a3 < 1 then some ([], 11) else
    (window_Holds.f k a0_0 a0_1 a2 a3).bind fun t2 => if t2 = true then (if 0 ≤ wrap64 (a2 - a0_0) then (if wrap64 (a2 - a0_0) ≤ (l1.length : Int) then (if a3.toNat * 2 ≤ 281474976710656 then
      some (cells_read_uint16.cut l1 (wrap64 (a2 - a0_0)).toNat a3.toNat, 0) else none) else none) else none) else some ([], 2)) else some ([], 11)) else some ([], 11)
theorem cells_read_uint16.mono : ∀ a0 a1 a2 a3 a4 k, LeO (cells_read_uint16.f k a0 a1 a2 a3 a4) (cells_read_uint16.f (k + 1) a0 a1 a2 a3 a4) := by
  intro a0 a1 a2 a3 a4 k
  unfold cells_read_uint16.f
  repeat' first
    | (with_reducible exact window_Holds.mono _ _ _ _ _)
    | (with_reducible exact LeO.refl _)
    | (with_reducible exact LeO.none _)
    | (with_reducible refine LeO.ite ?_ ?_)
    | (with_reducible refine LeO.bind ?_ (fun _ => ?_))
theorem cells_read_uint16.info : (Try.prog.info? 53).map (fun i => (i.zero, i.size, i.bytes)) = some (some (.int .u16 0), 1, 2) := by kernel_rfl
theorem cells_read_uint16.info1 : (Try.prog.info? 53).map (·.size) = some 1 := by kernel_rfl
set_option maxHeartbeats 4000000 in
set_option maxRecDepth 100000 in
theorem cells_read_uint16.calls (k : Nat) (a0_0 : Int) (a0_1 : Int) (A1 : Option Addr) (c1 : Nat) (l1 : List Int) (a2 : Int) (a3 : Int) (r1 : List Int) (r2 : Int) (w : World) (hr1 : Kd.C (Kd.int .u16) w A1 l1.length l1) (hc1 : l1.length ≤ c1) (h : cells_read_uint16.f k a0_0 a0_1 l1 a2 a3 = some (r1, r2)) :
    Calls Try.prog 54 #[.agg #[.int .i64 a0_0, .int .i64 a0_1], .slice A1 l1.length c1, .int .i64 a2, .int .i64 a3] w fun e w' => ∃ v0_ : Value, e = .returned (.tuple #[v0_, .int .i64 r2]) ∧ Kd.R (Kd.int .u16) 53 w' w.heap.size (fun _ => True) v0_ r1 ∧ Below w.heap.size w w' := by
  have hu1 := Try.underlying23
  have HR := Aside0.mk hr1
  have HC := Aside0.mk hc1
  clear hr1 hc1
  have HB := Aside0.mk (Below.refl w.heap.size w)
  unfold cells_read_uint16.f at h
  obtain ⟨t1, A1_, h⟩ := Option.bind_eq_some_iff.1 h
  have HA1 := Aside0.mk A1_
  clear A1_
  cases t1 with
  | false =>
    simp only [Bool.false_eq_true, if_false, Option.some.injEq, Prod.mk.injEq] at h
    obtain ⟨rfl, rfl⟩ := h
    go_enter Try.func54, Try.ntmps54
    go_wp2_with (first | (go_at_call 48; refine (window_Right.calls _ _ _ _ HA1.out).mono ?_; rintro e w1 ⟨rfl, hb1⟩; have HB1 := Aside0.mk hb1; have GG := Aside0.mk (blk_below (blk_new w (.cells #[.int .i64 a0_0, .int .i64 a0_1] 23)) hb1); clear hb1))
    go_ret2
    exact ⟨_, rfl, Kd.R_nil _ _ _ _ _, below_step (below_alloc HB.out _) HB1.out⟩
  | true =>
    simp only [if_true] at h
    by_cases c1 : (l1.length : Int) = a0_1
    · rw [if_pos c1] at h
      have b1 : ((l1.length : Int) != a0_1) = false := by simp [c1]
      have B1 := Aside0.mk c1
      clear c1
      by_cases c2 : a3 < 1
      · rw [if_pos c2] at h
        simp only [Option.some.injEq, Prod.mk.injEq] at h
        obtain ⟨rfl, rfl⟩ := h
        have b2 : decide (a3 < 1) = true := decide_eq_true c2
        clear c2
        go_enter Try.func54, Try.ntmps54
        go_wp2_with (first | (go_at_call 48; refine (window_Right.calls _ _ _ _ HA1.out).mono ?_; rintro e w1 ⟨rfl, hb1⟩; have HB1 := Aside0.mk hb1; have GG := Aside0.mk (blk_below (blk_new w (.cells #[.int .i64 a0_0, .int .i64 a0_1] 23)) hb1); clear hb1; have hx0 := blk_cell GG.out 0; have hx1 : w1.cell? ⟨w.heap.size, 1, none⟩ = some (.int .i64 a0_1) := (blk_cell GG.out 1).trans rfl))
        go_ret2
        exact ⟨_, rfl, Kd.R_nil _ _ _ _ _, below_step (below_alloc HB.out _) HB1.out⟩
      · rw [if_neg c2] at h
        have b2 : decide (a3 < 1) = false := decide_eq_false c2
        obtain ⟨t2, A2_, h⟩ := Option.bind_eq_some_iff.1 h
        have HA2 := Aside0.mk A2_
        clear A2_
        cases t2 with
        | false =>
          simp only [Bool.false_eq_true, if_false, Option.some.injEq, Prod.mk.injEq] at h
          obtain ⟨rfl, rfl⟩ := h
          clear c2
          go_enter Try.func54, Try.ntmps54
          go_wp2_with (first
            | (go_at_call 48; refine (window_Right.calls _ _ _ _ HA1.out).mono ?_; rintro e w1 ⟨rfl, hb1⟩; have HB1 := Aside0.mk hb1; have GG := Aside0.mk (blk_below (blk_new w (.cells #[.int .i64 a0_0, .int .i64 a0_1] 23)) hb1); clear hb1; have hx0 : w1.cell? ⟨w.heap.size, 0, none⟩ = some (.int .i64 a0_0) := (blk_cell GG.out 0).trans rfl; have hx1 : w1.cell? ⟨w.heap.size, 1, none⟩ = some (.int .i64 a0_1) := (blk_cell GG.out 1).trans rfl)
            | (go_at_call 65; refine (window_Holds.calls k _ _ _ _ _ _ HA2.out).mono ?_; rintro e w2 ⟨rfl, hb2⟩; have HB2 := Aside0.mk hb2; clear hb2))
          go_ret2
          exact ⟨_, rfl, Kd.R_nil _ _ _ _ _, below_step (below_step (below_alloc HB.out _) HB1.out) HB2.out⟩
        | true =>
          simp only [if_true] at h
          have hs0 : 0 ≤ wrap64 (a2 - a0_0) := by
            apply Classical.byContradiction; intro hh; rw [if_neg hh] at h; cases h
          rw [if_pos hs0] at h
          have hs1 : wrap64 (a2 - a0_0) ≤ (l1.length : Int) := by
            apply Classical.byContradiction; intro hh; rw [if_neg hh] at h; cases h
          rw [if_pos hs1] at h
          have hs2 : a3.toNat * 2 ≤ 281474976710656 := by
            apply Classical.byContradiction; intro hh; rw [if_neg hh] at h; cases h
          rw [if_pos hs2] at h
          simp only [Option.some.injEq, Prod.mk.injEq] at h
          obtain ⟨rfl, rfl⟩ := h
          obtain ⟨s, hs⟩ : ∃ s : Nat, wrap64 (a2 - a0_0) = (s : Int) := ⟨(wrap64 (a2 - a0_0)).toNat, by omega⟩
          have es : (wrap64 (a2 - a0_0)).toNat = s := by omega
          have e64 : IntKind.i64.wrap (a2 - a0_0) = (s : Int) := (i64_w _).trans hs
          rw [es]
          have hsl : s ≤ l1.length := by omega
          have HS := Aside0.mk hs
          have HC2 := Aside0.mk (show 1 ≤ a3 by omega)
          have HL2 := Aside0.mk hs2
          have hln : l1.length ≤ 9223372036854775807 := HR.out.2.1
          obtain ⟨i0, hi0, _, hsz0, _⟩ := info_parts cells_read_uint16.info
          have hcut := cut_from (P := Try.prog) 29 53 .i64 Try.underlying29 hi0 1 hsz0 A1 l1.length c1 (s : Int) (by omega) (by omega)
          have hdr := Kd.C_drop HR.out hsl HC.out
          rw [List.length_drop] at hdr
          simp only [Int.toNat_natCast] at hcut
          change Kd.C (Kd.int .u16) w (if c1 = s then A1 else A1.map (·.add (s * 1))) (l1.length - s) (l1.drop s) at hdr
          generalize (if c1 = s then A1 else A1.map (·.add (s * 1))) = B at hcut hdr
          have HD := Aside0.mk hdr
          clear hs es hs0 hs1 hs2 c2 hdr hi0 hsz0
          go_enter Try.func54, Try.ntmps54
          go_wp2_with (first
            | (go_at_call 48; refine (window_Right.calls _ _ _ _ HA1.out).mono ?_; rintro e w1 ⟨rfl, hb1⟩; have HB1 := Aside0.mk hb1; have GG := Aside0.mk (blk_below (blk_new w (.cells #[.int .i64 a0_0, .int .i64 a0_1] 23)) hb1); clear hb1; have hx0 : w1.cell? ⟨w.heap.size, 0, none⟩ = some (.int .i64 a0_0) := (blk_cell GG.out 0).trans rfl; have hx1 : w1.cell? ⟨w.heap.size, 1, none⟩ = some (.int .i64 a0_1) := (blk_cell GG.out 1).trans rfl)
            | (go_at_call 65; refine (window_Holds.calls k _ _ _ _ _ _ HA2.out).mono ?_; rintro e w2 ⟨rfl, hb2⟩; have HB2 := Aside0.mk (below_step (below_step (below_alloc HB.out _) HB1.out) hb2); have GG2 := Aside0.mk (blk_below GG.out hb2); clear hb2)
            | ((with_reducible refine gate_dst (N := 33) rfl ?_); refine Kd.R_make (Kd.int .u16) w.heap.size 53 rfl (N := 33) rfl 29 _ _ rfl a3 rfl rfl Try.underlying29 (.int .u16 0) 2 cells_read_uint16.info rfl (by decide) (by omega) (0 : Int) (ok := fun _ => True) (okp := fun _ => True) rfl (fun _ hk => hk) trivial ?h0 HL2.out HB2.out (below_size HB2.out) ?_; (case h0 => have := HC2.out; omega); intro v1 w3 ho hb hg _; have HO := Aside0.mk ho; have HB3 := Aside0.mk hb; have GG3 := Aside0.mk (blk_grown GG2.out hg (by simp)); clear ho hb hg; have hx3 : w3.cell? ⟨w.heap.size, 0, none⟩ = some (.int .i64 a0_0) := (blk_cell GG3.out 0).trans rfl)
            | ((with_reducible refine gate_dst (N := 41) rfl ?_); refine Kd.R_copy (enc := (Value.int .u16)) (h1 := fun _ => rfl) (0 : Int) w.heap.size rfl (.tmp 34) (.tmp 40) 29 29 53 rfl Try.underlying29 cells_read_uint16.info1 v1 _ (l1.drop s) B (l1.length - s) (c1 - s) (fun _ => True) rfl rfl HO.out (Kd.C_below HD.out HB3.out) HB3.out (below_size HB3.out) ?_; intro w4 ho hb _; simp only [List.length_replicate] at ho ⊢; have HO2 := Aside0.mk ho; have HB4 := Aside0.mk hb; clear ho hb))
          go_ret2
          exact ⟨_, rfl, HO2.out, HB4.out⟩
    · rw [if_neg c1] at h
      have b1 : ((l1.length : Int) != a0_1) = true := by simp [c1]
      clear c1
      simp only [Option.some.injEq, Prod.mk.injEq] at h
      obtain ⟨rfl, rfl⟩ := h
      go_enter Try.func54, Try.ntmps54
      go_wp2_with (first | (go_at_call 48; refine (window_Right.calls _ _ _ _ HA1.out).mono ?_; rintro e w1 ⟨rfl, hb1⟩; have HB1 := Aside0.mk hb1; have GG := Aside0.mk (blk_below (blk_new w (.cells #[.int .i64 a0_0, .int .i64 a0_1] 23)) hb1); clear hb1; have hx0 : w1.cell? ⟨w.heap.size, 0, none⟩ = some (.int .i64 a0_0) := (blk_cell GG.out 0).trans rfl; have hx1 : w1.cell? ⟨w.heap.size, 1, none⟩ = some (.int .i64 a0_1) := (blk_cell GG.out 1).trans rfl))
      go_ret2
      exact ⟨_, rfl, Kd.R_nil _ _ _ _ _, below_step (below_alloc HB.out _) HB1.out⟩


/-! ### cells_read_bool: function 50 -/
def cells_read_bool.cut (l : List Bool) (s n : Nat) : List Bool := (l.drop s).take (min (l.length - s) n) ++ (List.replicate n false).drop (min (l.length - s) n)
def cells_read_bool.f (k : Nat) (a0_0 a0_1 : Int) (l1 : List Bool) (a2 a3 : Int) : Option (List Bool × Int) :=
  (window_Right.f a0_0 a0_1).bind fun t1 => if t1 = true then (if (l1.length : Int) = a0_1 then (if a3 < 1 then some ([], 11) else
    (window_Holds.f k a0_0 a0_1 a2 a3).bind fun t2 => if t2 = true then (if 0 ≤ wrap64 (a2 - a0_0) then (if wrap64 (a2 - a0_0) ≤ (l1.length : Int) then (if a3.toNat * 1 ≤ 281474976710656 then
      some (cells_read_bool.cut l1 (wrap64 (a2 - a0_0)).toNat a3.toNat, 0) else none) else none) else none) else some ([], 2)) else some ([], 11)) else some ([], 11)
theorem cells_read_bool.mono : ∀ a0 a1 a2 a3 a4 k, LeO (cells_read_bool.f k a0 a1 a2 a3 a4) (cells_read_bool.f (k + 1) a0 a1 a2 a3 a4) := by
  intro a0 a1 a2 a3 a4 k
  unfold cells_read_bool.f
  repeat' first
    | (with_reducible exact window_Holds.mono _ _ _ _ _)
    | (with_reducible exact LeO.refl _)
    | (with_reducible exact LeO.none _)
    | (with_reducible refine LeO.ite ?_ ?_)
    | (with_reducible refine LeO.bind ?_ (fun _ => ?_))
theorem cells_read_bool.info : (Try.prog.info? 4).map (fun i => (i.zero, i.size, i.bytes)) = some (some (.bool false), 1, 1) := by kernel_rfl
theorem cells_read_bool.info1 : (Try.prog.info? 4).map (·.size) = some 1 := by kernel_rfl
set_option maxHeartbeats 4000000 in
set_option maxRecDepth 100000 in
theorem cells_read_bool.calls (k : Nat) (a0_0 : Int) (a0_1 : Int) (A1 : Option Addr) (c1 : Nat) (l1 : List Bool) (a2 : Int) (a3 : Int) (r1 : List Bool) (r2 : Int) (w : World) (hr1 : Kd.C Kd.bool w A1 l1.length l1) (hc1 : l1.length ≤ c1) (h : cells_read_bool.f k a0_0 a0_1 l1 a2 a3 = some (r1, r2)) :
    Calls Try.prog 50 #[.agg #[.int .i64 a0_0, .int .i64 a0_1], .slice A1 l1.length c1, .int .i64 a2, .int .i64 a3] w fun e w' => ∃ v0_ : Value, e = .returned (.tuple #[v0_, .int .i64 r2]) ∧ Kd.R Kd.bool 4 w' w.heap.size (fun _ => True) v0_ r1 ∧ Below w.heap.size w w' := by
  have hu1 := Try.underlying23
  have HR := Aside0.mk hr1
  have HC := Aside0.mk hc1
  clear hr1 hc1
  have HB := Aside0.mk (Below.refl w.heap.size w)
  unfold cells_read_bool.f at h
  obtain ⟨t1, A1_, h⟩ := Option.bind_eq_some_iff.1 h
  have HA1 := Aside0.mk A1_
  clear A1_
  cases t1 with
  | false =>
    simp only [Bool.false_eq_true, if_false, Option.some.injEq, Prod.mk.injEq] at h
    obtain ⟨rfl, rfl⟩ := h
    go_enter Try.func50, Try.ntmps50
    go_wp2_with (first | (go_at_call 48; refine (window_Right.calls _ _ _ _ HA1.out).mono ?_; rintro e w1 ⟨rfl, hb1⟩; have HB1 := Aside0.mk hb1; have GG := Aside0.mk (blk_below (blk_new w (.cells #[.int .i64 a0_0, .int .i64 a0_1] 23)) hb1); clear hb1))
    go_ret2
    exact ⟨_, rfl, Kd.R_nil _ _ _ _ _, below_step (below_alloc HB.out _) HB1.out⟩
  | true =>
    simp only [if_true] at h
    by_cases c1 : (l1.length : Int) = a0_1
    · rw [if_pos c1] at h
      have b1 : ((l1.length : Int) != a0_1) = false := by simp [c1]
      have B1 := Aside0.mk c1
      clear c1
      by_cases c2 : a3 < 1
      · rw [if_pos c2] at h
        simp only [Option.some.injEq, Prod.mk.injEq] at h
        obtain ⟨rfl, rfl⟩ := h
        have b2 : decide (a3 < 1) = true := decide_eq_true c2
        clear c2
        go_enter Try.func50, Try.ntmps50
        go_wp2_with (first | (go_at_call 48; refine (window_Right.calls _ _ _ _ HA1.out).mono ?_; rintro e w1 ⟨rfl, hb1⟩; have HB1 := Aside0.mk hb1; have GG := Aside0.mk (blk_below (blk_new w (.cells #[.int .i64 a0_0, .int .i64 a0_1] 23)) hb1); clear hb1; have hx0 := blk_cell GG.out 0; have hx1 : w1.cell? ⟨w.heap.size, 1, none⟩ = some (.int .i64 a0_1) := (blk_cell GG.out 1).trans rfl))
        go_ret2
        exact ⟨_, rfl, Kd.R_nil _ _ _ _ _, below_step (below_alloc HB.out _) HB1.out⟩
      · rw [if_neg c2] at h
        have b2 : decide (a3 < 1) = false := decide_eq_false c2
        obtain ⟨t2, A2_, h⟩ := Option.bind_eq_some_iff.1 h
        have HA2 := Aside0.mk A2_
        clear A2_
        cases t2 with
        | false =>
          simp only [Bool.false_eq_true, if_false, Option.some.injEq, Prod.mk.injEq] at h
          obtain ⟨rfl, rfl⟩ := h
          clear c2
          go_enter Try.func50, Try.ntmps50
          go_wp2_with (first
            | (go_at_call 48; refine (window_Right.calls _ _ _ _ HA1.out).mono ?_; rintro e w1 ⟨rfl, hb1⟩; have HB1 := Aside0.mk hb1; have GG := Aside0.mk (blk_below (blk_new w (.cells #[.int .i64 a0_0, .int .i64 a0_1] 23)) hb1); clear hb1; have hx0 : w1.cell? ⟨w.heap.size, 0, none⟩ = some (.int .i64 a0_0) := (blk_cell GG.out 0).trans rfl; have hx1 : w1.cell? ⟨w.heap.size, 1, none⟩ = some (.int .i64 a0_1) := (blk_cell GG.out 1).trans rfl)
            | (go_at_call 65; refine (window_Holds.calls k _ _ _ _ _ _ HA2.out).mono ?_; rintro e w2 ⟨rfl, hb2⟩; have HB2 := Aside0.mk hb2; clear hb2))
          go_ret2
          exact ⟨_, rfl, Kd.R_nil _ _ _ _ _, below_step (below_step (below_alloc HB.out _) HB1.out) HB2.out⟩
        | true =>
          simp only [if_true] at h
          have hs0 : 0 ≤ wrap64 (a2 - a0_0) := by
            apply Classical.byContradiction; intro hh; rw [if_neg hh] at h; cases h
          rw [if_pos hs0] at h
          have hs1 : wrap64 (a2 - a0_0) ≤ (l1.length : Int) := by
            apply Classical.byContradiction; intro hh; rw [if_neg hh] at h; cases h
          rw [if_pos hs1] at h
          have hs2 : a3.toNat * 1 ≤ 281474976710656 := by
            apply Classical.byContradiction; intro hh; rw [if_neg hh] at h; cases h
          rw [if_pos hs2] at h
          simp only [Option.some.injEq, Prod.mk.injEq] at h
          obtain ⟨rfl, rfl⟩ := h
          obtain ⟨s, hs⟩ : ∃ s : Nat, wrap64 (a2 - a0_0) = (s : Int) := ⟨(wrap64 (a2 - a0_0)).toNat, by omega⟩
          have es : (wrap64 (a2 - a0_0)).toNat = s := by omega
          have e64 : IntKind.i64.wrap (a2 - a0_0) = (s : Int) := (i64_w _).trans hs
          rw [es]
          have hsl : s ≤ l1.length := by omega
          have HS := Aside0.mk hs
          have HC2 := Aside0.mk (show 1 ≤ a3 by omega)
          have HL2 := Aside0.mk hs2
          have hln : l1.length ≤ 9223372036854775807 := HR.out.2.1
          obtain ⟨i0, hi0, _, hsz0, _⟩ := info_parts cells_read_bool.info
          have hcut := cut_from (P := Try.prog) 28 4 .i64 Try.underlying28 hi0 1 hsz0 A1 l1.length c1 (s : Int) (by omega) (by omega)
          have hdr := Kd.C_drop HR.out hsl HC.out
          rw [List.length_drop] at hdr
          simp only [Int.toNat_natCast] at hcut
          change Kd.C Kd.bool w (if c1 = s then A1 else A1.map (·.add (s * 1))) (l1.length - s) (l1.drop s) at hdr
          generalize (if c1 = s then A1 else A1.map (·.add (s * 1))) = B at hcut hdr
          have HD := Aside0.mk hdr
          clear hs es hs0 hs1 hs2 c2 hdr hi0 hsz0
          go_enter Try.func50, Try.ntmps50
          go_wp2_with (first
            | (go_at_call 48; refine (window_Right.calls _ _ _ _ HA1.out).mono ?_; rintro e w1 ⟨rfl, hb1⟩; have HB1 := Aside0.mk hb1; have GG := Aside0.mk (blk_below (blk_new w (.cells #[.int .i64 a0_0, .int .i64 a0_1] 23)) hb1); clear hb1; have hx0 : w1.cell? ⟨w.heap.size, 0, none⟩ = some (.int .i64 a0_0) := (blk_cell GG.out 0).trans rfl; have hx1 : w1.cell? ⟨w.heap.size, 1, none⟩ = some (.int .i64 a0_1) := (blk_cell GG.out 1).trans rfl)
            | (go_at_call 65; refine (window_Holds.calls k _ _ _ _ _ _ HA2.out).mono ?_; rintro e w2 ⟨rfl, hb2⟩; have HB2 := Aside0.mk (below_step (below_step (below_alloc HB.out _) HB1.out) hb2); have GG2 := Aside0.mk (blk_below GG.out hb2); clear hb2)
            | ((with_reducible refine gate_dst (N := 33) rfl ?_); refine Kd.R_make Kd.bool w.heap.size 4 rfl (N := 33) rfl 28 _ _ rfl a3 rfl rfl Try.underlying28 (.bool false) 1 cells_read_bool.info rfl (by decide) (by omega) false (ok := fun _ => True) (okp := fun _ => True) rfl (fun _ hk => hk) trivial ?h0 HL2.out HB2.out (below_size HB2.out) ?_; (case h0 => have := HC2.out; omega); intro v1 w3 ho hb hg _; have HO := Aside0.mk ho; have HB3 := Aside0.mk hb; have GG3 := Aside0.mk (blk_grown GG2.out hg (by simp)); clear ho hb hg; have hx3 : w3.cell? ⟨w.heap.size, 0, none⟩ = some (.int .i64 a0_0) := (blk_cell GG3.out 0).trans rfl)
            | ((with_reducible refine gate_dst (N := 41) rfl ?_); refine Kd.R_copy (enc := Value.bool) (h1 := fun _ => rfl) false w.heap.size rfl (.tmp 34) (.tmp 40) 28 28 4 rfl Try.underlying28 cells_read_bool.info1 v1 _ (l1.drop s) B (l1.length - s) (c1 - s) (fun _ => True) rfl rfl HO.out (Kd.C_below HD.out HB3.out) HB3.out (below_size HB3.out) ?_; intro w4 ho hb _; simp only [List.length_replicate] at ho ⊢; have HO2 := Aside0.mk ho; have HB4 := Aside0.mk hb; clear ho hb))
          go_ret2
          exact ⟨_, rfl, HO2.out, HB4.out⟩
    · rw [if_neg c1] at h
      have b1 : ((l1.length : Int) != a0_1) = true := by simp [c1]
      clear c1
      simp only [Option.some.injEq, Prod.mk.injEq] at h
      obtain ⟨rfl, rfl⟩ := h
      go_enter Try.func50, Try.ntmps50
      go_wp2_with (first | (go_at_call 48; refine (window_Right.calls _ _ _ _ HA1.out).mono ?_; rintro e w1 ⟨rfl, hb1⟩; have HB1 := Aside0.mk hb1; have GG := Aside0.mk (blk_below (blk_new w (.cells #[.int .i64 a0_0, .int .i64 a0_1] 23)) hb1); clear hb1; have hx0 : w1.cell? ⟨w.heap.size, 0, none⟩ = some (.int .i64 a0_0) := (blk_cell GG.out 0).trans rfl; have hx1 : w1.cell? ⟨w.heap.size, 1, none⟩ = some (.int .i64 a0_1) := (blk_cell GG.out 1).trans rfl))
      go_ret2
      exact ⟨_, rfl, Kd.R_nil _ _ _ _ _, below_step (below_alloc HB.out _) HB1.out⟩


end Go.Proofs.Ytamcpmfimicnjaa.P
