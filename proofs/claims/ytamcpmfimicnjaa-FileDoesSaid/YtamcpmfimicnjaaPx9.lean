-- Written by the session's own turn of the kit's print program (wip/patch_print.py). Not trusted: Lean checks it.
import Derived.Test.YtamcpmfimicnjaaPx0
import Derived.Test.YtamcpmfimicnjaaPx2
import Derived.Test.YtamcpmfimicnjaaPx4
import Derived.Test.YtamcpmfimicnjaaPx7
import Derived.Test.YtamcpmfimicnjaaPx8
namespace Go.Proofs.Ytamcpmfimicnjaa.P
open Go.RowKit Go.Proofs.YtamcpmfimicnjaaW.PrintWords Go.Proofs.YtamcpmfimicnjaaW.PrintLast Go.Proofs.YtamcpmfimicnjaaW.PrintMore
attribute [local go_sem] max2_int min2_int max_two min_two max_three min_three max_four min_four   -- for this text's walks alone
set_option linter.unusedVariables false
set_option linter.unusedSimpArgs false

/-! ### cells_read_uint16: function 54 -/
def cells_read_uint16.cut (l : List Int) (s n : Nat) : List Int := (l.drop s).take (min (l.length - s) n) ++ (List.replicate n (0 : Int)).drop (min (l.length - s) n)
def cells_read_uint16.f (k : Nat) (a0_0 a0_1 : Int) (l1 : List Int) (a2 a3 : Int) : Option (List Int × Int) :=
  (window_Right.f a0_0 a0_1).bind fun t1 => if t1 = true then (if (l1.length : Int) = a0_1 then (if a3 < 1 then some ([], 11) else
    (window_Holds.f k a0_0 a0_1 a2 a3).bind fun t2 => if t2 = true then (if 0 ≤ wrap64 (a2 - a0_0) then (if wrap64 (a2 - a0_0) ≤ (l1.length : Int) then (if a3.toNat * 2 ≤ 281474976710656 then
      some (cells_read_uint16.cut l1 (wrap64 (a2 - a0_0)).toNat a3.toNat, 0) else none) else none) else none) else some ([], 2)) else some ([], 11)) else some ([], 11)
theorem cells_read_uint16.mono : ∀ a0 a1 a2 a3 a4 k, LeO (cells_read_uint16.f k a0 a1 a2 a3 a4) (cells_read_uint16.f (k + 1) a0 a1 a2 a3 a4) := by
  intro a0 a1 a2 a3 a4 k
  unfold cells_read_uint16.f
  repeat' first
    | (with_reducible exact window_Holds.mono _ _ _ _ _)
    | (with_reducible exact LeO.refl _)
    | (with_reducible exact LeO.none _)
    | (with_reducible refine LeO.ite ?_ ?_)
    | (with_reducible refine LeO.bind ?_ (fun _ => ?_))
theorem cells_read_uint16.info : (Try.prog.info? 53).map (fun i => (i.zero, i.size, i.bytes)) = some (some (.int .u16 0), 1, 2) := by kernel_rfl
theorem cells_read_uint16.info1 : (Try.prog.info? 53).map (·.size) = some 1 := by kernel_rfl
set_option maxHeartbeats 4000000 in
set_option maxRecDepth 100000 in
theorem cells_read_uint16.calls (k : Nat) (a0_0 : Int) (a0_1 : Int) (A1 : Option Addr) (c1 : Nat) (l1 : List Int) (a2 : Int) (a3 : Int) (r1 : List Int) (r2 : Int) (w : World) (hr1 : Kd.C (Kd.int .u16) w A1 l1.length l1) (hc1 : l1.length ≤ c1) (h : cells_read_uint16.f k a0_0 a0_1 l1 a2 a3 = some (r1, r2)) :
    Calls Try.prog 54 #[.agg #[.int .i64 a0_0, .int .i64 a0_1], .slice A1 l1.length c1, .int .i64 a2, .int .i64 a3] w fun e w' => ∃ v0_ : Value, e = .returned (.tuple #[v0_, .int .i64 r2]) ∧ Kd.R (Kd.int .u16) 53 w' w.heap.size (fun _ => True) v0_ r1 ∧ Below w.heap.size w w' := by
  have hu1 := Try.underlying23
  have HR := Aside0.mk hr1
  have HC := Aside0.mk hc1
  clear hr1 hc1
  have HB := Aside0.mk (Below.refl w.heap.size w)
  unfold cells_read_uint16.f at h
  obtain ⟨t1, A1_, h⟩ := Option.bind_eq_some_iff.1 h
  have HA1 := Aside0.mk A1_
  clear A1_
  cases t1 with
  | false =>
    simp only [Bool.false_eq_true, if_false, Option.some.injEq, Prod.mk.injEq] at h
    obtain ⟨rfl, rfl⟩ := h
    go_enter Try.func54, Try.ntmps54
    go_wp2_with (first | (go_at_call 48; refine (window_Right.calls _ _ _ _ HA1.out).mono ?_; rintro e w1 ⟨rfl, hb1⟩; have HB1 := Aside0.mk hb1; have GG := Aside0.mk (blk_below (blk_new w (.cells #[.int .i64 a0_0, .int .i64 a0_1] 23)) hb1); clear hb1))
    go_ret2
    exact ⟨_, rfl, Kd.R_nil _ _ _ _ _, below_step (below_alloc HB.out _) HB1.out⟩
  | true =>
    simp only [if_true] at h
    by_cases c1 : (l1.length : Int) = a0_1
    · rw [if_pos c1] at h
      have b1 : ((l1.length : Int) != a0_1) = false := by simp [c1]
      have B1 := Aside0.mk c1
      clear c1
      by_cases c2 : a3 < 1
      · rw [if_pos c2] at h
        simp only [Option.some.injEq, Prod.mk.injEq] at h
        obtain ⟨rfl, rfl⟩ := h
        have b2 : decide (a3 < 1) = true := decide_eq_true c2
        clear c2
        go_enter Try.func54, Try.ntmps54
        go_wp2_with (first | (go_at_call 48; refine (window_Right.calls _ _ _ _ HA1.out).mono ?_; rintro e w1 ⟨rfl, hb1⟩; have HB1 := Aside0.mk hb1; have GG := Aside0.mk (blk_below (blk_new w (.cells #[.int .i64 a0_0, .int .i64 a0_1] 23)) hb1); clear hb1; have hx0 := blk_cell GG.out 0; have hx1 : w1.cell? ⟨w.heap.size, 1, none⟩ = some (.int .i64 a0_1) := (blk_cell GG.out 1).trans rfl))
        go_ret2
        exact ⟨_, rfl, Kd.R_nil _ _ _ _ _, below_step (below_alloc HB.out _) HB1.out⟩
      · rw [if_neg c2] at h
        have b2 : decide (a3 < 1) = false := decide_eq_false c2
        obtain ⟨t2, A2_, h⟩ := Option.bind_eq_some_iff.1 h
        have HA2 := Aside0.mk A2_
        clear A2_
        cases t2 with
        | false =>
          simp only [Bool.false_eq_true, if_false, Option.some.injEq, Prod.mk.injEq] at h
          obtain ⟨rfl, rfl⟩ := h
          clear c2
          go_enter Try.func54, Try.ntmps54
          go_wp2_with (first
            | (go_at_call 48; refine (window_Right.calls _ _ _ _ HA1.out).mono ?_; rintro e w1 ⟨rfl, hb1⟩; have HB1 := Aside0.mk hb1; have GG := Aside0.mk (blk_below (blk_new w (.cells #[.int .i64 a0_0, .int .i64 a0_1] 23)) hb1); clear hb1; have hx0 : w1.cell? ⟨w.heap.size, 0, none⟩ = some (.int .i64 a0_0) := (blk_cell GG.out 0).trans rfl; have hx1 : w1.cell? ⟨w.heap.size, 1, none⟩ = some (.int .i64 a0_1) := (blk_cell GG.out 1).trans rfl)
            | (go_at_call 65; refine (window_Holds.calls k _ _ _ _ _ _ HA2.out).mono ?_; rintro e w2 ⟨rfl, hb2⟩; have HB2 := Aside0.mk hb2; clear hb2))
          go_ret2
          exact ⟨_, rfl, Kd.R_nil _ _ _ _ _, below_step (below_step (below_alloc HB.out _) HB1.out) HB2.out⟩
        | true =>
          simp only [if_true] at h
          have hs0 : 0 ≤ wrap64 (a2 - a0_0) := by
            apply Classical.byContradiction; intro hh; rw [if_neg hh] at h; cases h
          rw [if_pos hs0] at h
          have hs1 : wrap64 (a2 - a0_0) ≤ (l1.length : Int) := by
            apply Classical.byContradiction; intro hh; rw [if_neg hh] at h; cases h
          rw [if_pos hs1] at h
          have hs2 : a3.toNat * 2 ≤ 281474976710656 := by
            apply Classical.byContradiction; intro hh; rw [if_neg hh] at h; cases h
          rw [if_pos hs2] at h
          simp only [Option.some.injEq, Prod.mk.injEq] at h
          obtain ⟨rfl, rfl⟩ := h
          obtain ⟨s, hs⟩ : ∃ s : Nat, wrap64 (a2 - a0_0) = (s : Int) := ⟨(wrap64 (a2 - a0_0)).toNat, by omega⟩
          have es : (wrap64 (a2 - a0_0)).toNat = s := by omega
          have e64 : IntKind.i64.wrap (a2 - a0_0) = (s : Int) := (i64_w _).trans hs
          rw [es]
          have hsl : s ≤ l1.length := by omega
          have HS := Aside0.mk hs
          have HC2 := Aside0.mk (show 1 ≤ a3 by omega)
          have HL2 := Aside0.mk hs2
          have hln : l1.length ≤ 9223372036854775807 := HR.out.2.1
          obtain ⟨i0, hi0, _, hsz0, _⟩ := info_parts cells_read_uint16.info
          have hcut := cut_from (P := Try.prog) 29 53 .i64 Try.underlying29 hi0 1 hsz0 A1 l1.length c1 (s : Int) (by omega) (by omega)
          have hdr := Kd.C_drop HR.out hsl HC.out
          rw [List.length_drop] at hdr
          simp only [Int.toNat_natCast] at hcut
          change Kd.C (Kd.int .u16) w (if c1 = s then A1 else A1.map (·.add (s * 1))) (l1.length - s) (l1.drop s) at hdr
          generalize (if c1 = s then A1 else A1.map (·.add (s * 1))) = B at hcut hdr
          have HD := Aside0.mk hdr
          clear hs es hs0 hs1 hs2 c2 hdr hi0 hsz0
          go_enter Try.func54, Try.ntmps54
          go_wp2_with (first
            | (go_at_call 48; refine (window_Right.calls _ _ _ _ HA1.out).mono ?_; rintro e w1 ⟨rfl, hb1⟩; have HB1 := Aside0.mk hb1; have GG := Aside0.mk (blk_below (blk_new w (.cells #[.int .i64 a0_0, .int .i64 a0_1] 23)) hb1); clear hb1; have hx0 : w1.cell? ⟨w.heap.size, 0, none⟩ = some (.int .i64 a0_0) := (blk_cell GG.out 0).trans rfl; have hx1 : w1.cell? ⟨w.heap.size, 1, none⟩ = some (.int .i64 a0_1) := (blk_cell GG.out 1).trans rfl)
            | (go_at_call 65; refine (window_Holds.calls k _ _ _ _ _ _ HA2.out).mono ?_; rintro e w2 ⟨rfl, hb2⟩; have HB2 := Aside0.mk (below_step (below_step (below_alloc HB.out _) HB1.out) hb2); have GG2 := Aside0.mk (blk_below GG.out hb2); clear hb2)
            | ((with_reducible refine gate_dst (N := 33) rfl ?_); refine Kd.R_make (Kd.int .u16) w.heap.size 53 rfl (N := 33) rfl 29 _ _ rfl a3 rfl rfl Try.underlying29 (.int .u16 0) 2 cells_read_uint16.info rfl (by decide) (by omega) (0 : Int) (ok := fun _ => True) (okp := fun _ => True) rfl (fun _ hk => hk) trivial ?h0 HL2.out HB2.out (below_size HB2.out) ?_; (case h0 => have := HC2.out; omega); intro v1 w3 ho hb hg _; have HO := Aside0.mk ho; have HB3 := Aside0.mk hb; have GG3 := Aside0.mk (blk_grown GG2.out hg (by simp)); clear ho hb hg; have hx3 : w3.cell? ⟨w.heap.size, 0, none⟩ = some (.int .i64 a0_0) := (blk_cell GG3.out 0).trans rfl)
            | ((with_reducible refine gate_dst (N := 41) rfl ?_); refine Kd.R_copy (enc := (Value.int .u16)) (h1 := fun _ => rfl) (0 : Int) w.heap.size rfl (.tmp 34) (.tmp 40) 29 29 53 rfl Try.underlying29 cells_read_uint16.info1 v1 _ (l1.drop s) B (l1.length - s) (c1 - s) (fun _ => True) rfl rfl HO.out (Kd.C_below HD.out HB3.out) HB3.out (below_size HB3.out) ?_; intro w4 ho hb _; simp only [List.length_replicate] at ho ⊢; have HO2 := Aside0.mk ho; have HB4 := Aside0.mk hb; clear ho hb))
          go_ret2
          exact ⟨_, rfl, HO2.out, HB4.out⟩
    · rw [if_neg c1] at h
      have b1 : ((l1.length : Int) != a0_1) = true := by simp [c1]
      clear c1
      simp only [Option.some.injEq, Prod.mk.injEq] at h
      obtain ⟨rfl, rfl⟩ := h
      go_enter Try.func54, Try.ntmps54
      go_wp2_with (first | (go_at_call 48; refine (window_Right.calls _ _ _ _ HA1.out).mono ?_; rintro e w1 ⟨rfl, hb1⟩; have HB1 := Aside0.mk hb1; have GG := Aside0.mk (blk_below (blk_new w (.cells #[.int .i64 a0_0, .int .i64 a0_1] 23)) hb1); clear hb1; have hx0 : w1.cell? ⟨w.heap.size, 0, none⟩ = some (.int .i64 a0_0) := (blk_cell GG.out 0).trans rfl; have hx1 : w1.cell? ⟨w.heap.size, 1, none⟩ = some (.int .i64 a0_1) := (blk_cell GG.out 1).trans rfl))
      go_ret2
      exact ⟨_, rfl, Kd.R_nil _ _ _ _ _, below_step (below_alloc HB.out _) HB1.out⟩


/-! ### cells_read_bool: function 50 -/
def cells_read_bool.cut (l : List Bool) (s n : Nat) : List Bool := (l.drop s).take (min (l.length - s) n) ++ (List.replicate n false).drop (min (l.length - s) n)
def cells_read_bool.f (k : Nat) (a0_0 a0_1 : Int) (l1 : List Bool) (a2 a3 : Int) : Option (List Bool × Int) :=
  (window_Right.f a0_0 a0_1).bind fun t1 => if t1 = true then (if (l1.length : Int) = a0_1 then (if a3 < 1 then some ([], 11) else
    (window_Holds.f k a0_0 a0_1 a2 a3).bind fun t2 => if t2 = true then (if 0 ≤ wrap64 (a2 - a0_0) then (if wrap64 (a2 - a0_0) ≤ (l1.length : Int) then (if a3.toNat * 1 ≤ 281474976710656 then
      some (cells_read_bool.cut l1 (wrap64 (a2 - a0_0)).toNat a3.toNat, 0) else none) else none) else none) else some ([], 2)) else some ([], 11)) else some ([], 11)
theorem cells_read_bool.mono : ∀ a0 a1 a2 a3 a4 k, LeO (cells_read_bool.f k a0 a1 a2 a3 a4) (cells_read_bool.f (k + 1) a0 a1 a2 a3 a4) := by
  intro a0 a1 a2 a3 a4 k
  unfold cells_read_bool.f
  repeat' first
    | (with_reducible exact window_Holds.mono _ _ _ _ _)
    | (with_reducible exact LeO.refl _)
    | (with_reducible exact LeO.none _)
    | (with_reducible refine LeO.ite ?_ ?_)
    | (with_reducible refine LeO.bind ?_ (fun _ => ?_))
theorem cells_read_bool.info : (Try.prog.info? 4).map (fun i => (i.zero, i.size, i.bytes)) = some (some (.bool false), 1, 1) := by kernel_rfl
theorem cells_read_bool.info1 : (Try.prog.info? 4).map (·.size) = some 1 := by kernel_rfl
set_option maxHeartbeats 4000000 in
set_option maxRecDepth 100000 in
theorem cells_read_bool.calls (k : Nat) (a0_0 : Int) (a0_1 : Int) (A1 : Option Addr) (c1 : Nat) (l1 : List Bool) (a2 : Int) (a3 : Int) (r1 : List Bool) (r2 : Int) (w : World) (hr1 : Kd.C Kd.bool w A1 l1.length l1) (hc1 : l1.length ≤ c1) (h : cells_read_bool.f k a0_0 a0_1 l1 a2 a3 = some (r1, r2)) :
    Calls Try.prog 50 #[.agg #[.int .i64 a0_0, .int .i64 a0_1], .slice A1 l1.length c1, .int .i64 a2, .int .i64 a3] w fun e w' => ∃ v0_ : Value, e = .returned (.tuple #[v0_, .int .i64 r2]) ∧ Kd.R Kd.bool 4 w' w.heap.size (fun _ => True) v0_ r1 ∧ Below w.heap.size w w' := by
  have hu1 := Try.underlying23
  have HR := Aside0.mk hr1
  have HC := Aside0.mk hc1
  clear hr1 hc1
  have HB := Aside0.mk (Below.refl w.heap.size w)
  unfold cells_read_bool.f at h
  obtain ⟨t1, A1_, h⟩ := Option.bind_eq_some_iff.1 h
  have HA1 := Aside0.mk A1_
  clear A1_
  cases t1 with
  | false =>
    simp only [Bool.false_eq_true, if_false, Option.some.injEq, Prod.mk.injEq] at h
    obtain ⟨rfl, rfl⟩ := h
    go_enter Try.func50, Try.ntmps50
    go_wp2_with (first | (go_at_call 48; refine (window_Right.calls _ _ _ _ HA1.out).mono ?_; rintro e w1 ⟨rfl, hb1⟩; have HB1 := Aside0.mk hb1; have GG := Aside0.mk (blk_below (blk_new w (.cells #[.int .i64 a0_0, .int .i64 a0_1] 23)) hb1); clear hb1))
    go_ret2
    exact ⟨_, rfl, Kd.R_nil _ _ _ _ _, below_step (below_alloc HB.out _) HB1.out⟩
  | true =>
    simp only [if_true] at h
    by_cases c1 : (l1.length : Int) = a0_1
    · rw [if_pos c1] at h
      have b1 : ((l1.length : Int) != a0_1) = false := by simp [c1]
      have B1 := Aside0.mk c1
      clear c1
      by_cases c2 : a3 < 1
      · rw [if_pos c2] at h
        simp only [Option.some.injEq, Prod.mk.injEq] at h
        obtain ⟨rfl, rfl⟩ := h
        have b2 : decide (a3 < 1) = true := decide_eq_true c2
        clear c2
        go_enter Try.func50, Try.ntmps50
        go_wp2_with (first | (go_at_call 48; refine (window_Right.calls _ _ _ _ HA1.out).mono ?_; rintro e w1 ⟨rfl, hb1⟩; have HB1 := Aside0.mk hb1; have GG := Aside0.mk (blk_below (blk_new w (.cells #[.int .i64 a0_0, .int .i64 a0_1] 23)) hb1); clear hb1; have hx0 := blk_cell GG.out 0; have hx1 : w1.cell? ⟨w.heap.size, 1, none⟩ = some (.int .i64 a0_1) := (blk_cell GG.out 1).trans rfl))
        go_ret2
        exact ⟨_, rfl, Kd.R_nil _ _ _ _ _, below_step (below_alloc HB.out _) HB1.out⟩
      · rw [if_neg c2] at h
        have b2 : decide (a3 < 1) = false := decide_eq_false c2
        obtain ⟨t2, A2_, h⟩ := Option.bind_eq_some_iff.1 h
        have HA2 := Aside0.mk A2_
        clear A2_
        cases t2 with
        | false =>
          simp only [Bool.false_eq_true, if_false, Option.some.injEq, Prod.mk.injEq] at h
          obtain ⟨rfl, rfl⟩ := h
          clear c2
          go_enter Try.func50, Try.ntmps50
          go_wp2_with (first
            | (go_at_call 48; refine (window_Right.calls _ _ _ _ HA1.out).mono ?_; rintro e w1 ⟨rfl, hb1⟩; have HB1 := Aside0.mk hb1; have GG := Aside0.mk (blk_below (blk_new w (.cells #[.int .i64 a0_0, .int .i64 a0_1] 23)) hb1); clear hb1; have hx0 : w1.cell? ⟨w.heap.size, 0, none⟩ = some (.int .i64 a0_0) := (blk_cell GG.out 0).trans rfl; have hx1 : w1.cell? ⟨w.heap.size, 1, none⟩ = some (.int .i64 a0_1) := (blk_cell GG.out 1).trans rfl)
            | (go_at_call 65; refine (window_Holds.calls k _ _ _ _ _ _ HA2.out).mono ?_; rintro e w2 ⟨rfl, hb2⟩; have HB2 := Aside0.mk hb2; clear hb2))
          go_ret2
          exact ⟨_, rfl, Kd.R_nil _ _ _ _ _, below_step (below_step (below_alloc HB.out _) HB1.out) HB2.out⟩
        | true =>
          simp only [if_true] at h
          have hs0 : 0 ≤ wrap64 (a2 - a0_0) := by
            apply Classical.byContradiction; intro hh; rw [if_neg hh] at h; cases h
          rw [if_pos hs0] at h
          have hs1 : wrap64 (a2 - a0_0) ≤ (l1.length : Int) := by
            apply Classical.byContradiction; intro hh; rw [if_neg hh] at h; cases h
          rw [if_pos hs1] at h
          have hs2 : a3.toNat * 1 ≤ 281474976710656 := by
            apply Classical.byContradiction; intro hh; rw [if_neg hh] at h; cases h
          rw [if_pos hs2] at h
          simp only [Option.some.injEq, Prod.mk.injEq] at h
          obtain ⟨rfl, rfl⟩ := h
          obtain ⟨s, hs⟩ : ∃ s : Nat, wrap64 (a2 - a0_0) = (s : Int) := ⟨(wrap64 (a2 - a0_0)).toNat, by omega⟩
          have es : (wrap64 (a2 - a0_0)).toNat = s := by omega
          have e64 : IntKind.i64.wrap (a2 - a0_0) = (s : Int) := (i64_w _).trans hs
          rw [es]
          have hsl : s ≤ l1.length := by omega
          have HS := Aside0.mk hs
          have HC2 := Aside0.mk (show 1 ≤ a3 by omega)
          have HL2 := Aside0.mk hs2
          have hln : l1.length ≤ 9223372036854775807 := HR.out.2.1
          obtain ⟨i0, hi0, _, hsz0, _⟩ := info_parts cells_read_bool.info
          have hcut := cut_from (P := Try.prog) 28 4 .i64 Try.underlying28 hi0 1 hsz0 A1 l1.length c1 (s : Int) (by omega) (by omega)
          have hdr := Kd.C_drop HR.out hsl HC.out
          rw [List.length_drop] at hdr
          simp only [Int.toNat_natCast] at hcut
          change Kd.C Kd.bool w (if c1 = s then A1 else A1.map (·.add (s * 1))) (l1.length - s) (l1.drop s) at hdr
          generalize (if c1 = s then A1 else A1.map (·.add (s * 1))) = B at hcut hdr
          have HD := Aside0.mk hdr
          clear hs es hs0 hs1 hs2 c2 hdr hi0 hsz0
          go_enter Try.func50, Try.ntmps50
          go_wp2_with (first
            | (go_at_call 48; refine (window_Right.calls _ _ _ _ HA1.out).mono ?_; rintro e w1 ⟨rfl, hb1⟩; have HB1 := Aside0.mk hb1; have GG := Aside0.mk (blk_below (blk_new w (.cells #[.int .i64 a0_0, .int .i64 a0_1] 23)) hb1); clear hb1; have hx0 : w1.cell? ⟨w.heap.size, 0, none⟩ = some (.int .i64 a0_0) := (blk_cell GG.out 0).trans rfl; have hx1 : w1.cell? ⟨w.heap.size, 1, none⟩ = some (.int .i64 a0_1) := (blk_cell GG.out 1).trans rfl)
            | (go_at_call 65; refine (window_Holds.calls k _ _ _ _ _ _ HA2.out).mono ?_; rintro e w2 ⟨rfl, hb2⟩; have HB2 := Aside0.mk (below_step (below_step (below_alloc HB.out _) HB1.out) hb2); have GG2 := Aside0.mk (blk_below GG.out hb2); clear hb2)
            | ((with_reducible refine gate_dst (N := 33) rfl ?_); refine Kd.R_make Kd.bool w.heap.size 4 rfl (N := 33) rfl 28 _ _ rfl a3 rfl rfl Try.underlying28 (.bool false) 1 cells_read_bool.info rfl (by decide) (by omega) false (ok := fun _ => True) (okp := fun _ => True) rfl (fun _ hk => hk) trivial ?h0 HL2.out HB2.out (below_size HB2.out) ?_; (case h0 => have := HC2.out; omega); intro v1 w3 ho hb hg _; have HO := Aside0.mk ho; have HB3 := Aside0.mk hb; have GG3 := Aside0.mk (blk_grown GG2.out hg (by simp)); clear ho hb hg; have hx3 : w3.cell? ⟨w.heap.size, 0, none⟩ = some (.int .i64 a0_0) := (blk_cell GG3.out 0).trans rfl)
            | ((with_reducible refine gate_dst (N := 41) rfl ?_); refine Kd.R_copy (enc := Value.bool) (h1 := fun _ => rfl) false w.heap.size rfl (.tmp 34) (.tmp 40) 28 28 4 rfl Try.underlying28 cells_read_bool.info1 v1 _ (l1.drop s) B (l1.length - s) (c1 - s) (fun _ => True) rfl rfl HO.out (Kd.C_below HD.out HB3.out) HB3.out (below_size HB3.out) ?_; intro w4 ho hb _; simp only [List.length_replicate] at ho ⊢; have HO2 := Aside0.mk ho; have HB4 := Aside0.mk hb; clear ho hb))
          go_ret2
          exact ⟨_, rfl, HO2.out, HB4.out⟩
    · rw [if_neg c1] at h
      have b1 : ((l1.length : Int) != a0_1) = true := by simp [c1]
      clear c1
      simp only [Option.some.injEq, Prod.mk.injEq] at h
      obtain ⟨rfl, rfl⟩ := h
      go_enter Try.func50, Try.ntmps50
      go_wp2_with (first | (go_at_call 48; refine (window_Right.calls _ _ _ _ HA1.out).mono ?_; rintro e w1 ⟨rfl, hb1⟩; have HB1 := Aside0.mk hb1; have GG := Aside0.mk (blk_below (blk_new w (.cells #[.int .i64 a0_0, .int .i64 a0_1] 23)) hb1); clear hb1; have hx0 : w1.cell? ⟨w.heap.size, 0, none⟩ = some (.int .i64 a0_0) := (blk_cell GG.out 0).trans rfl; have hx1 : w1.cell? ⟨w.heap.size, 1, none⟩ = some (.int .i64 a0_1) := (blk_cell GG.out 1).trans rfl))
      go_ret2
      exact ⟨_, rfl, Kd.R_nil _ _ _ _ _, below_step (below_alloc HB.out _) HB1.out⟩


/-! ### bilgeref13_Words: function 46 -/
mutual
def bilgeref13_Words.j0 : Nat → List Int → Int → Int → Bool → Int → Int → Option (List Int × Int)
 | 0, _, _, _, _, _, _ => none
 | k + 1, x1, x2, x3, x20, x152000, x152001 => if x20 = true then (some (([] : List Int), 11)) else ((bilgeref12_Holds.f x152000 x152001 x2 x3).bind fun t153 => (if t153 = true then (bilgeref13_Words.l0 k x1 x2 x3 ([] : List Int) 0 x152000 x152001) else (some (([] : List Int), 2))))
def bilgeref13_Words.l0 : Nat → List Int → Int → Int → List Int → Int → Int → Int → Option (List Int × Int)
 | 0, _, _, _, _, _, _, _ => none
 | k + 1, x1, x2, x3, x10, x11, x152000, x152001 => if x11 < x3 then (if 0 ≤ (wrap64 ((wrap64 (x2 - x152000)) + x11)) then (if (wrap64 ((wrap64 (x2 - x152000)) + x11)) < (x1.length : Int) then (if x10.length < 70368744177664 then (bilgeref13_Words.l0 k x1 x2 x3 (x10 ++ [rd x1 (wrap64 ((wrap64 (x2 - x152000)) + x11))]) (wrap64 (x11 + 1)) x152000 x152001) else (none)) else (none)) else (none)) else (some (x10, 0))
end
def bilgeref13_Words.f (k : Nat) (a0_0 : Int) (a0_1 : Int) (l1 : List Int) (a2 : Int) (a3 : Int) : Option (List Int × Int) := (bilgeref13_Own.f a0_0 a0_1 (l1.length : Int)).bind fun t152 => (if t152 = true then (bilgeref13_Words.j0 k l1 a2 a3 (decide (a3 < 1)) a0_0 a0_1) else (bilgeref13_Words.j0 k l1 a2 a3 true a0_0 a0_1))
theorem bilgeref13_Words.mono_l : ∀ k, (∀ y0 y1 y2 y3 y4 y5, LeO (bilgeref13_Words.j0 k y0 y1 y2 y3 y4 y5) (bilgeref13_Words.j0 (k + 1) y0 y1 y2 y3 y4 y5)) ∧ (∀ y0 y1 y2 y3 y4 y5 y6, LeO (bilgeref13_Words.l0 k y0 y1 y2 y3 y4 y5 y6) (bilgeref13_Words.l0 (k + 1) y0 y1 y2 y3 y4 y5 y6))
 | 0 => ⟨fun _ _ _ _ _ _ r h => by simp [bilgeref13_Words.j0] at h, fun _ _ _ _ _ _ _ r h => by simp [bilgeref13_Words.l0] at h⟩
 | k + 1 => by
  obtain ⟨ih0, ih1⟩ := bilgeref13_Words.mono_l k
  refine ⟨?_, ?_⟩
  ·intro y0 y1 y2 y3 y4 y5
   unfold bilgeref13_Words.j0
   repeat' first
   | (with_reducible exact ih0 _ _ _ _ _ _)
   | (with_reducible exact ih1 _ _ _ _ _ _ _)
   | (with_reducible exact LeO.refl _)
   | (with_reducible exact LeO.none _)
   | (with_reducible refine LeO.ite ?_ ?_)
   | (with_reducible refine LeO.bind ?_ (fun _ => ?_))
   | exact ih0 _ _ _ _ _ _
   | exact ih1 _ _ _ _ _ _ _
   | exact LeO.none _
   | refine LeO.ite ?_ ?_
   | refine LeO.bind ?_ (fun _ => ?_)
  ·intro y0 y1 y2 y3 y4 y5 y6
   unfold bilgeref13_Words.l0
   repeat' first
   | (with_reducible exact ih0 _ _ _ _ _ _)
   | (with_reducible exact ih1 _ _ _ _ _ _ _)
   | (with_reducible exact LeO.refl _)
   | (with_reducible exact LeO.none _)
   | (with_reducible refine LeO.ite ?_ ?_)
   | (with_reducible refine LeO.bind ?_ (fun _ => ?_))
   | exact ih0 _ _ _ _ _ _
   | exact ih1 _ _ _ _ _ _ _
   | exact LeO.none _
   | refine LeO.ite ?_ ?_
   | refine LeO.bind ?_ (fun _ => ?_)
theorem bilgeref13_Words.mono : ∀ a0 a1 a2 a3 a4 k, LeO (bilgeref13_Words.f k a0 a1 a2 a3 a4) (bilgeref13_Words.f (k + 1) a0 a1 a2 a3 a4) := by
 intro a0 a1 a2 a3 a4 k
 obtain ⟨ih0, ih1⟩ := bilgeref13_Words.mono_l k
 unfold bilgeref13_Words.f
 repeat' first
   | (with_reducible exact ih0 _ _ _ _ _ _)
   | (with_reducible exact ih1 _ _ _ _ _ _ _)
   | (with_reducible exact LeO.refl _)
   | (with_reducible exact LeO.none _)
   | (with_reducible refine LeO.ite ?_ ?_)
   | (with_reducible refine LeO.bind ?_ (fun _ => ?_))
   | exact ih0 _ _ _ _ _ _
   | exact ih1 _ _ _ _ _ _ _
   | exact LeO.none _
   | refine LeO.ite ?_ ?_
   | refine LeO.bind ?_ (fun _ => ?_)
set_option maxHeartbeats 8000000 in
set_option maxRecDepth 100000 in
theorem bilgeref13_Words.calls (k : Nat) (a0_0 : Int) (a0_1 : Int) (A1 : Option Addr) (c1 : Nat) (l1 : List Int) (a2 : Int) (a3 : Int) (r1 : List Int) (r2 : Int) (w : World) (hr1 : Kd.C (Kd.int .u16) w A1 l1.length l1) (hc1 : l1.length ≤ c1) (h : bilgeref13_Words.f k a0_0 a0_1 l1 a2 a3 = some (r1, r2)) :
  Calls Try.prog 46 #[.agg #[.int .i64 a0_0, .int .i64 a0_1], .slice A1 l1.length c1, .int .i64 a2, .int .i64 a3] w fun e w' => ∃ v0_ : Value, e = .returned (.tuple #[v0_, .int .i64 r2]) ∧ Kd.R (Kd.int .u16) 53 w' w.heap.size (fun _ => True) v0_ r1 ∧ Below w.heap.size w w' := by
 have hu23 := Try.underlying23
 have HR1 := Aside0.mk hr1
 have HC1 := Aside0.mk hc1
 clear hr1 hc1
 have HB := Aside0.mk (Below.refl w.heap.size w)
 have H : ((bilgeref13_Own.f a0_0 a0_1 (l1.length : Int)).bind fun t152 => (if t152 = true then (bilgeref13_Words.j0 k l1 a2 a3 (decide (a3 < 1)) a0_0 a0_1) else (bilgeref13_Words.j0 k l1 a2 a3 true a0_0 a0_1))) = some (r1, r2) := h
 clear h
 have HC5 := Aside0.mk H
 clear H
 go_enter Try.func46, Try.ntmps46
 go_upto_region 1 with (first | ((with_reducible refine gate_dst (N := 4) rfl ?_); refine box_event ?hg (N := 4) ?hd (cs := #[.int .i64 a0_0, .int .i64 a0_1]) (t := 23) ?hr ?_; (case hd => rfl); (case hg => rfl); (case hr => first | (go_simp; done) | (go_simp; rfl)); intro gb151 hg w6 hbox hb; have n0_ := Aside0.mk (below_step (by repeat (first | (with_reducible first | exact HB.out | apply below_alloc | apply pw_below_drewN | apply below_drew1) | exact HB.out)) hb); have n1_ := Aside0.mk (hbox); have n2_ := Aside0.mk ((by rw [hg]; exact (below_size (by repeat (first | (with_reducible first | exact HB.out | apply below_alloc | apply pw_below_drewN | apply below_drew1) | exact HB.out))) : w.heap.size ≤ gb151)); have n3_ := Aside0.mk ((by rw [hg]; exact (below_size (by repeat (first | (with_reducible first | exact HB.out | apply below_alloc | apply pw_below_drewN | apply below_drew1) | exact HB.out))) : w.heap.size ≤ gb151)); clear HB; have HB := n0_; have BK151 := n1_; have GW151 := n2_; have GE151 := n3_; clear n0_ n1_ n2_ n3_; clear hb hbox hg))
 (try simp only [Act.put, List.setIfInBounds_toArray, List.set_cons_zero, List.set_cons_succ])
 go_cut [20] (fun v20 wc => ∃ (kq : Nat) (x20_4 : Bool), v20 = .bool x20_4 ∧ Aside0 (bilgeref13_Words.j0 kq l1 a2 a3 x20_4 a0_0 a0_1 = some (r1, r2)) ∧ Aside0 (kq ≤ k) ∧ Aside0 (wc.heap[gb151]? = some (.cells #[.int .i64 a0_0, .int .i64 a0_1] 23 (0, 0))) ∧ Aside0 (Below w.heap.size w wc))
 case first =>
  have H := HC5.out
  clear HC5
  replace H := Option.bind_eq_some_iff.mp H
  obtain ⟨t152, A70, H⟩ := H
  replace H : (if t152 = true then (bilgeref13_Words.j0 k l1 a2 a3 (decide (a3 < 1)) a0_0 a0_1) else (bilgeref13_Words.j0 k l1 a2 a3 true a0_0 a0_1)) = some (r1, r2) := H
  have A7 := Aside0.mk A70
  clear A70
  by_cases c8 : t152 = true
  ·subst c8
   have H1 : (bilgeref13_Words.j0 k l1 a2 a3 (decide (a3 < 1)) a0_0 a0_1) = some (r1, r2) := by rw [if_pos rfl] at H; exact H
   clear H
   have H := H1
   clear H1
   have H' := Aside0.mk H
   clear H
   have hcz9_0 : w6.cell? ⟨gb151, 0, none⟩ = some (.int .i64 a0_0) := (blk_cell BK151.out 0).trans rfl
   have hcz9_1 : w6.cell? ⟨gb151, 1, none⟩ = some (.int .i64 a0_1) := (blk_cell BK151.out 1).trans rfl
   have hfz9_0 := blk_frozen BK151.out 0
   have hfz9_1 := blk_frozen BK151.out 1
   go_wp2_with (first | ((with_reducible refine gate_callee (f := 62) rfl ?_); refine goesL_ (some 15) rfl rfl Try.func62 (by kernel_rfl) rfl #[.agg #[.int .i64 a0_0, .int .i64 a0_1], .int .i64 (l1.length : Int)] rfl (by (try simp only [List.map_toArray, List.map_cons, List.map_nil]); first | done | rfl | (simp only [List.length_drop, List.length_take]; rfl)) ?_; (with_reducible refine (bilgeref13_Own.calls a0_0 a0_1 (l1.length : Int) true _ A7.out).mono ?_); rintro e w10 ⟨rfl, hb⟩; refine ⟨_, rfl, ?_⟩; have n0_ := Aside0.mk (blk_below (g := gb151) (o := .cells #[.int .i64 a0_0, .int .i64 a0_1] 23 (0, 0)) (by (with_reducible repeat (first | refine blk_drewN ?_ _ | refine blk_drew ?_ | refine blk_alloc ?_ _)); exact BK151.out) hb); have n1_ := Aside0.mk (below_step (by repeat (first | (with_reducible first | exact HB.out | apply below_alloc | apply pw_below_drewN | apply below_drew1 | refine below_set ?_ GE151.out) | exact HB.out)) hb); clear BK151; clear HB; have BK151 := n0_; have HB := n1_; clear n0_ n1_; (try clear hb); (try clear hb2); (try clear hk); (try clear hi)))
   go_meet
   case rel => exact ⟨_, (decide (a3 < 1)), (by first | rfl | (simp; done) | (simp [*]; done)), H', ⟨by first | omega | exact Nat.le_refl _⟩, ⟨by (with_reducible repeat (first | refine blk_drewN ?_ _ | refine blk_drew ?_ | refine blk_alloc ?_ _)); exact BK151.out⟩, ⟨by repeat (first | (with_reducible first | exact HB.out | apply below_alloc | apply pw_below_drewN | apply below_drew1 | refine below_set ?_ GE151.out) | exact HB.out)⟩⟩
  ·replace c8 := Bool.eq_false_iff.mpr c8
   subst c8
   have H1 : (bilgeref13_Words.j0 k l1 a2 a3 true a0_0 a0_1) = some (r1, r2) := by rw [if_neg (show ¬ (false = true) by decide)] at H; exact H
   clear H
   have H := H1
   clear H1
   have H' := Aside0.mk H
   clear H
   have hcz11_0 : w6.cell? ⟨gb151, 0, none⟩ = some (.int .i64 a0_0) := (blk_cell BK151.out 0).trans rfl
   have hcz11_1 : w6.cell? ⟨gb151, 1, none⟩ = some (.int .i64 a0_1) := (blk_cell BK151.out 1).trans rfl
   have hfz11_0 := blk_frozen BK151.out 0
   have hfz11_1 := blk_frozen BK151.out 1
   go_wp2_with (first | ((with_reducible refine gate_callee (f := 62) rfl ?_); refine goesL_ (some 15) rfl rfl Try.func62 (by kernel_rfl) rfl #[.agg #[.int .i64 a0_0, .int .i64 a0_1], .int .i64 (l1.length : Int)] rfl (by (try simp only [List.map_toArray, List.map_cons, List.map_nil]); first | done | rfl | (simp only [List.length_drop, List.length_take]; rfl)) ?_; (with_reducible refine (bilgeref13_Own.calls a0_0 a0_1 (l1.length : Int) false _ A7.out).mono ?_); rintro e w12 ⟨rfl, hb⟩; refine ⟨_, rfl, ?_⟩; have n0_ := Aside0.mk (blk_below (g := gb151) (o := .cells #[.int .i64 a0_0, .int .i64 a0_1] 23 (0, 0)) (by (with_reducible repeat (first | refine blk_drewN ?_ _ | refine blk_drew ?_ | refine blk_alloc ?_ _)); exact BK151.out) hb); have n1_ := Aside0.mk (below_step (by repeat (first | (with_reducible first | exact HB.out | apply below_alloc | apply pw_below_drewN | apply below_drew1 | refine below_set ?_ GE151.out) | exact HB.out)) hb); clear BK151; clear HB; have BK151 := n0_; have HB := n1_; clear n0_ n1_; (try clear hb); (try clear hb2); (try clear hk); (try clear hi)))
   go_meet
   case rel => exact ⟨_, (true), (by first | rfl | (simp; done) | (simp [*]; done)), H', ⟨by first | omega | exact Nat.le_refl _⟩, ⟨by (with_reducible repeat (first | refine blk_drewN ?_ _ | refine blk_drew ?_ | refine blk_alloc ?_ _)); exact BK151.out⟩, ⟨by repeat (first | (with_reducible first | exact HB.out | apply below_alloc | apply pw_below_drewN | apply below_drew1 | refine below_set ?_ GE151.out) | exact HB.out)⟩⟩
 case rest =>
  clear HC5
  try clear c1
  try clear p2
  try clear c4
  try clear c6
  try clear c8
  try clear hcz11_0
  try clear hcz11_1
  try clear hcz9_0
  try clear hcz9_1
  try clear hfz11_0
  try clear hfz11_1
  try clear hfz9_0
  try clear hfz9_1
  obtain ⟨kq, x20_4, rfl, HA, HJ4, BK151, HB⟩ := hcut
  cases kq with
  | zero => exact absurd HA.out (by simp [bilgeref13_Words.j0])
  | succ kj4 =>
   have H := HA.out
   clear HA
   simp only [bilgeref13_Words.j0] at H
   by_cases c13 : x20_4 = true
   ·subst c13
    have H1 : (some (([] : List Int), 11)) = some (r1, r2) := by rw [if_pos rfl] at H; exact H
    clear H
    have H := H1
    clear H1
    simp only [Option.some.injEq, Prod.mk.injEq] at H
    obtain ⟨rfl, rfl⟩ := H
    go_wp2
    go_ret2
    exact ⟨_, by first | rfl | (simp [errW_none, errW_some] <;> rfl) | (simp [*, errW_none, errW_some] <;> rfl), by first | exact Kd.R_nil _ _ _ _ _ | exact Kd.N_nil _ _ _ _ _ | exact Kd.V_nil _ _ _ _ _ | exact Kd.Q_nil _ _ _ _ _ | exact Kd.S_nil _ _ _ _ _, by repeat (first | (with_reducible first | exact HB.out | apply below_alloc | apply pw_below_drewN | apply below_drew1 | refine below_set ?_ GE151.out) | exact HB.out)⟩
   ·replace c13 := Bool.eq_false_iff.mpr c13
    subst c13
    have H1 : ((bilgeref12_Holds.f a0_0 a0_1 a2 a3).bind fun t153 => (if t153 = true then (bilgeref13_Words.l0 kj4 l1 a2 a3 ([] : List Int) 0 a0_0 a0_1) else (some (([] : List Int), 2)))) = some (r1, r2) := by rw [if_neg (show ¬ (false = true) by decide)] at H; exact H
    clear H
    have H := H1
    clear H1
    replace H := Option.bind_eq_some_iff.mp H
    obtain ⟨t153, A140, H⟩ := H
    replace H : (if t153 = true then (bilgeref13_Words.l0 kj4 l1 a2 a3 ([] : List Int) 0 a0_0 a0_1) else (some (([] : List Int), 2))) = some (r1, r2) := H
    have A14 := Aside0.mk A140
    clear A140
    by_cases c15 : t153 = true
    ·subst c15
     have H1 : (bilgeref13_Words.l0 kj4 l1 a2 a3 ([] : List Int) 0 a0_0 a0_1) = some (r1, r2) := by rw [if_pos rfl] at H; exact H
     clear H
     have H := H1
     clear H1
     have H' := Aside0.mk H
     clear H
     have hcz16_0 : wc.cell? ⟨gb151, 0, none⟩ = some (.int .i64 a0_0) := (blk_cell BK151.out 0).trans rfl
     have hcz16_1 : wc.cell? ⟨gb151, 1, none⟩ = some (.int .i64 a0_1) := (blk_cell BK151.out 1).trans rfl
     have hfz16_0 := blk_frozen BK151.out 0
     have hfz16_1 := blk_frozen BK151.out 1
     go_wp2_with (first | ((with_reducible refine gate_callee (f := 63) rfl ?_); refine goesL_ (some 24) rfl rfl Try.func63 (by kernel_rfl) rfl #[.agg #[.int .i64 a0_0, .int .i64 a0_1], .int .i64 a2, .int .i64 a3] rfl (by (try simp only [List.map_toArray, List.map_cons, List.map_nil]); first | done | rfl | (simp only [List.length_drop, List.length_take]; rfl)) ?_; (with_reducible refine (bilgeref12_Holds.calls a0_0 a0_1 a2 a3 true _ A14.out).mono ?_); rintro e w17 ⟨rfl, hb⟩; refine ⟨_, rfl, ?_⟩; have n0_ := Aside0.mk (blk_below (g := gb151) (o := .cells #[.int .i64 a0_0, .int .i64 a0_1] 23 (0, 0)) (by (with_reducible repeat (first | refine blk_drewN ?_ _ | refine blk_drew ?_ | refine blk_alloc ?_ _)); exact BK151.out) hb); have n1_ := Aside0.mk (below_step (by repeat (first | (with_reducible first | exact HB.out | apply below_alloc | apply pw_below_drewN | apply below_drew1 | refine below_set ?_ GE151.out) | exact HB.out)) hb); clear BK151; clear HB; have BK151 := n0_; have HB := n1_; clear n0_ n1_; (try clear hb); (try clear hb2); (try clear hk); (try clear hi)))
     go_loopg [10, 11] kj4 (fun kq v10 v11 w' => ∃ (x10_2 : List Int) (x11_2 : Int), v11 = .int .i64 x11_2 ∧ Aside0 (bilgeref13_Words.l0 kq l1 a2 a3 x10_2 x11_2 a0_0 a0_1 = some (r1, r2)) ∧ Aside0 (kq ≤ kj4) ∧ Aside0 (Kd.R (Kd.int .u16) 53 w' w.heap.size (fun _ => True) v10 x10_2) ∧ Aside0 (w'.heap[gb151]? = some (.cells #[.int .i64 a0_0, .int .i64 a0_1] 23 (0, 0))) ∧ Aside0 (Below w.heap.size w w'))
     case atStart => exact ⟨(([] : List Int)), (0), (by first | rfl | (simp; done) | (simp [*]; done)), H', ⟨Nat.le_refl _⟩, ⟨by first | exact Kd.R_nil _ _ _ _ _ | exact Kd.N_nil _ _ _ _ _ | exact Kd.V_nil _ _ _ _ _ | exact Kd.Q_nil _ _ _ _ _ | exact Kd.S_nil _ _ _ _ _⟩, ⟨by (with_reducible repeat (first | refine blk_drewN ?_ _ | refine blk_drew ?_ | refine blk_alloc ?_ _)); exact BK151.out⟩, ⟨by repeat (first | (with_reducible first | exact HB.out | apply below_alloc | apply pw_below_drewN | apply below_drew1 | refine below_set ?_ GE151.out) | exact HB.out)⟩⟩
     case round =>
      clear H'
      try clear c1
      try clear p2
      try clear c4
      try clear c6
      try clear c8
      try clear c13
      try clear c15
      try clear hcz11_0
      try clear hcz11_1
      try clear hcz16_0
      try clear hcz16_1
      try clear hcz9_0
      try clear hcz9_1
      try clear hfz11_0
      try clear hfz11_1
      try clear hfz16_0
      try clear hfz16_1
      try clear hfz9_0
      try clear hfz9_1
      try clear p2
      obtain ⟨x10_2, x11_2, rfl, HA, HK2, HO_10, BK151, HB⟩ := hrel
      cases gk with
      | zero => exact absurd HA.out (by simp [bilgeref13_Words.l0])
      | succ k2 =>
       have H := HA.out
       clear HA
       simp only [bilgeref13_Words.l0] at H
       by_cases c18 : x11_2 < a3
       ·rw [if_pos c18] at H
        have c18b0 : decide (x11_2 < a3) = true := decide_eq_true c18
        clear c18
        obtain ⟨ji19, hji19⟩ : ∃ j_ : Int, (wrap64 ((wrap64 (a2 - a0_0)) + x11_2)) = j_ := ⟨_, rfl⟩
        replace H : (if 0 ≤ (ji19) then (if (ji19) < (l1.length : Int) then (if x10_2.length < 70368744177664 then (bilgeref13_Words.l0 k2 l1 a2 a3 (x10_2 ++ [rd l1 (ji19)]) (wrap64 (x11_2 + 1)) a0_0 a0_1) else (none)) else (none)) else (none)) = some (r1, r2) := by first | (rw [hji19] at H; exact H) | (simp only [hji19] at H ⊢; exact H)
        have hji19w : (IntKind.i64.wrap ((wrap64 (a2 - a0_0)) + x11_2)) = ji19 := (i64_w _).trans hji19
        by_cases c20 : 0 ≤ (ji19)
        ·rw [if_pos c20] at H
         have c20b0 : decide (0 ≤ (ji19)) = true := decide_eq_true c20
         clear c20
         by_cases c21 : (ji19) < (l1.length : Int)
         ·rw [if_pos c21] at H
          have c21b0 : decide ((ji19) < (l1.length : Int)) = true := decide_eq_true c21
          clear c21
          by_cases c22 : x10_2.length < 70368744177664
          ·rw [if_pos c22] at H
           have LMc22 := Aside0.mk c22
           clear c22
           obtain ⟨y155, hy155⟩ : ∃ y_ : List Int, y_ = (x10_2 ++ [rd l1 (ji19)]) := ⟨_, rfl⟩
           replace H : (bilgeref13_Words.l0 k2 l1 a2 a3 y155 (wrap64 (x11_2 + 1)) a0_0 a0_1) = some (r1, r2) := by first | (rw [hy155]; with_reducible exact H) | (have H2_ := (Option.bind_some _ _).symm.trans H; rw [hy155]; with_reducible exact H2_) | (have H2_ := (Option.bind_some _ _).symm.trans H; with_reducible exact H2_) | with_reducible exact H | (rw [hy155]; exact H) | exact H
           have Ny155 := Aside0.mk hy155
           clear hy155
           have H' := Aside0.mk H
           clear H
           have hcz23_0 : wr.cell? ⟨gb151, 0, none⟩ = some (.int .i64 a0_0) := (blk_cell BK151.out 0).trans rfl
           have hcz23_1 : wr.cell? ⟨gb151, 1, none⟩ = some (.int .i64 a0_1) := (blk_cell BK151.out 1).trans rfl
           have hfz23_0 := blk_frozen BK151.out 0
           have hfz23_1 := blk_frozen BK151.out 1
           have p154 : 0 ≤ ((ji19) : Int) := of_decide_eq_true (by first | (with_reducible assumption) | assumption)
           have q154 : (ji19) < (l1.length : Int) := of_decide_eq_true (by first | (with_reducible assumption) | assumption)
           obtain ⟨ad154, e154, hx154_0⟩ := Kd.at_int HR1.out (ji19) p154 q154
           cases e154
           replace hx154_0 := (HB.out.cell (World.block_lt_of_cell? w _ hx154_0)).trans hx154_0
           replace p154 := eq_true p154
           replace q154 := eq_true q154
           go_wp2_with (first | ((with_reducible refine gate_builtin (b := .append) (xs := #[.tmp 31, .tmp 41]) rfl ?_); at_builtin; refine Kd.R_append (Kd.int .u16) (w0 := w) w.heap.size rfl (.tmp 31) (.tmp 41) 29 53 (.int .u16 0) 2 rfl Try.underlying29 info53 rfl (by decide) (by omega) u10 x10_2 (rd l1 (ji19)) [.int .u16 (rd l1 (ji19))] (fun _ => True) (fun _ => False) rfl rfl ?aP (fun _ hk => hk.elim) ?aF ?aO ?aB ?aS ?aL ?_; (case aP => exact rfl); (case aB => exact (by repeat (first | (with_reducible first | exact HB.out | apply below_alloc | apply pw_below_drewN | apply below_drew1 | refine below_set ?_ GE151.out) | exact HB.out))); (case aF => exact (fun _ _ => trivial)); (case aO => exact (by (with_reducible repeat (first | apply Kd.R_alloc | apply Kd.R_drewN | apply Kd.R_drew)); exact HO_10.out)); (case aS => exact (below_size (by repeat (first | (with_reducible first | exact HB.out | apply below_alloc | apply pw_below_drewN | apply below_drew1 | refine below_set ?_ GE151.out) | exact HB.out)))); (case aL => have := LMc22.out; omega); intro v156 w24 ho hb hg hat; rw [← Ny155.out] at ho; have n0_ := Aside0.mk (blk_grown (g := gb151) (o := .cells #[.int .i64 a0_0, .int .i64 a0_1] 23 (0, 0)) (by (with_reducible repeat (first | refine blk_drewN ?_ _ | refine blk_drew ?_ | refine blk_alloc ?_ _)); exact BK151.out) hg (Kd.R_ne HO_10.out BK151.out (by decide))); have n1_ := Aside0.mk (hb); have n2_ := Aside0.mk (ho); clear BK151; clear HB; clear HO_10; have BK151 := n0_; have HB := n1_; have HO157 := n2_; clear n0_ n1_ n2_; clear ho hb hg hat))
           all_goals try (first | exact absurd (of_decide_eq_true c18b0) (by assumption) | exact absurd (of_decide_eq_true c20b0) (by assumption) | exact absurd (of_decide_eq_true c21b0) (by assumption))
           go_roundg k2
           case measure => have := HJ4.out; have := HK2.out; omega
           case rel => exact ⟨(y155), (wrap64 (x11_2 + 1)), (by first | rfl | (simp; done) | (simp [*]; done)), H', ⟨by have := HJ4.out; have := HK2.out; omega⟩, ⟨by (with_reducible repeat (first | apply Kd.R_alloc | apply Kd.R_drewN | apply Kd.R_drew)); exact HO157.out⟩, ⟨by (with_reducible repeat (first | refine blk_drewN ?_ _ | refine blk_drew ?_ | refine blk_alloc ?_ _)); exact BK151.out⟩, ⟨by repeat (first | (with_reducible first | exact HB.out | apply below_alloc | apply pw_below_drewN | apply below_drew1 | refine below_set ?_ GE151.out) | exact HB.out)⟩⟩
          ·rw [if_neg c22] at H
           exact absurd H (by simp)
         ·rw [if_neg c21] at H
          exact absurd H (by simp)
        ·rw [if_neg c20] at H
         exact absurd H (by simp)
       ·rw [if_neg c18] at H
        have c18b0 : decide (x11_2 < a3) = false := decide_eq_false c18
        clear c18
        simp only [Option.some.injEq, Prod.mk.injEq] at H
        obtain ⟨rfl, rfl⟩ := H
        go_wp2
        all_goals try (first | exact absurd (by assumption) (of_decide_eq_false c18b0))
        go_ret2
        exact ⟨_, by first | rfl | (simp [errW_none, errW_some] <;> rfl) | (simp [*, errW_none, errW_some] <;> rfl), by (with_reducible repeat (first | apply Kd.R_alloc | apply Kd.R_drewN | apply Kd.R_drew)); exact HO_10.out, by repeat (first | (with_reducible first | exact HB.out | apply below_alloc | apply pw_below_drewN | apply below_drew1 | refine below_set ?_ GE151.out) | exact HB.out)⟩
    ·replace c15 := Bool.eq_false_iff.mpr c15
     subst c15
     have H1 : (some (([] : List Int), 2)) = some (r1, r2) := by rw [if_neg (show ¬ (false = true) by decide)] at H; exact H
     clear H
     have H := H1
     clear H1
     simp only [Option.some.injEq, Prod.mk.injEq] at H
     obtain ⟨rfl, rfl⟩ := H
     have hcz25_0 : wc.cell? ⟨gb151, 0, none⟩ = some (.int .i64 a0_0) := (blk_cell BK151.out 0).trans rfl
     have hcz25_1 : wc.cell? ⟨gb151, 1, none⟩ = some (.int .i64 a0_1) := (blk_cell BK151.out 1).trans rfl
     have hfz25_0 := blk_frozen BK151.out 0
     have hfz25_1 := blk_frozen BK151.out 1
     go_wp2_with (first | ((with_reducible refine gate_callee (f := 63) rfl ?_); refine goesL_ (some 24) rfl rfl Try.func63 (by kernel_rfl) rfl #[.agg #[.int .i64 a0_0, .int .i64 a0_1], .int .i64 a2, .int .i64 a3] rfl (by (try simp only [List.map_toArray, List.map_cons, List.map_nil]); first | done | rfl | (simp only [List.length_drop, List.length_take]; rfl)) ?_; (with_reducible refine (bilgeref12_Holds.calls a0_0 a0_1 a2 a3 false _ A14.out).mono ?_); rintro e w26 ⟨rfl, hb⟩; refine ⟨_, rfl, ?_⟩; have n0_ := Aside0.mk (blk_below (g := gb151) (o := .cells #[.int .i64 a0_0, .int .i64 a0_1] 23 (0, 0)) (by (with_reducible repeat (first | refine blk_drewN ?_ _ | refine blk_drew ?_ | refine blk_alloc ?_ _)); exact BK151.out) hb); have n1_ := Aside0.mk (below_step (by repeat (first | (with_reducible first | exact HB.out | apply below_alloc | apply pw_below_drewN | apply below_drew1 | refine below_set ?_ GE151.out) | exact HB.out)) hb); clear BK151; clear HB; have BK151 := n0_; have HB := n1_; clear n0_ n1_; (try clear hb); (try clear hb2); (try clear hk); (try clear hi)))
     go_ret2
     exact ⟨_, by first | rfl | (simp [errW_none, errW_some] <;> rfl) | (simp [*, errW_none, errW_some] <;> rfl), by first | exact Kd.R_nil _ _ _ _ _ | exact Kd.N_nil _ _ _ _ _ | exact Kd.V_nil _ _ _ _ _ | exact Kd.Q_nil _ _ _ _ _ | exact Kd.S_nil _ _ _ _ _, by repeat (first | (with_reducible first | exact HB.out | apply below_alloc | apply pw_below_drewN | apply below_drew1 | refine below_set ?_ GE151.out) | exact HB.out)⟩

end Go.Proofs.Ytamcpmfimicnjaa.P
