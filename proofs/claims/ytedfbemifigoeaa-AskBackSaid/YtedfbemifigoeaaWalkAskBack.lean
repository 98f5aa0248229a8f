import Derived.Test.YtedfbemifigoeaaX
import Derived.Test.YtedfbemifigoeaaAo
import Derived.Test.YtedfbemifigoeaaAv
import Derived.Test.YtedfbemifigoeaaLWord
import Derived.Test.YtedfbemifigoeaaLBits
import Derived.Test.YtedfbemifigoeaaPx1
import Derived.Test.YtedfbemifigoeaaPx2
import Derived.Test.YtedfbemifigoeaaPx3
import Derived.Test.YtedfbemifigoeaaPx4
import Derived.Test.YtedfbemifigoeaaPx5
import Derived.Test.YtedfbemifigoeaaPx6
import Derived.Test.YtedfbemifigoeaaPx4
namespace Go.Proofs.Ytedfbemifigoeaa.P
open Go.RowKit Go.Proofs.YtedfbemifigoeaaW.PrintWords Go.Proofs.YtedfbemifigoeaaW.PrintLast Go.Proofs.YtedfbemifigoeaaW.PrintMore
attribute [local go_sem] max2_int min2_int max_two min_two max_three min_three max_four min_four   -- for this text's walks alone
set_option linter.unusedVariables false
set_option linter.unusedSimpArgs false

open Go.Proofs.Ytedfbemifigoeaa.L

theorem As.bytesN {w : World} {A B : Option Addr} {c d n k : Nat} {l m : List Int} (hn : n = l.length) (hk : k = m.length) (h1 : (Kd.int .u8).C w A l.length l) (k1 : l.length ≤ c) (h2 : (Kd.int .u8).C w B m.length m) (k2 : m.length ≤ d) (hs : l.length ≤ 1000000) {y : Bool} (he : decide (l = m) = y) : Calls Try.prog 18 #[.slice A n c, .slice B k d] w fun e w' => e = .returned (.bool y) ∧ Below w.heap.size w w' := by
  subst hn hk
  exact As.bytesE h1 k1 h2 k2 hs he
theorem As.tidys {A : Option Addr} {c n : Nat} {l : List Int} {a : Int} {t : Bool} {w : World} (hn : n = l.length) (hr : (Kd.int .u8).C w A l.length l) (hc : l.length ≤ c) (ht : bits_Tidy.f l a = some t) : Calls Try.prog 23 #[.slice A n c, .int .i64 a] w fun e w' => e = .returned (.bool t) ∧ Below w.heap.size w w' := by
  subst hn
  exact (bits_Tidy.calls A c l a t w hr hc ht).mono (fun e w' hh => ⟨hh.1, hh.2.below⟩)
set_option maxHeartbeats 16000000 in
set_option maxRecDepth 100000 in
theorem As.lawBack {A1 : Option Addr} {c1 : Nat} {l : List Int} {w : World} {cs : Array Value} {x : S25} (h : As.V w cs x) (h16 : ∀ n ∈ x.f9, 0 ≤ n ∧ n ≤ 65535) (hr : (Kd.int .u8).C w A1 l.length l) (hc : l.length ≤ c1) (h8 : ∀ x ∈ l, U8 x) : Calls Try.prog 5 #[.agg cs, .slice A1 l.length c1] w fun e w' => e = .returned (.bool true) ∧ Below w.heap.size w w' := by
  have HV := Aside0.mk h
  have H16 := Aside0.mk h16
  obtain ⟨A8, c8, A9, c9, rfl, -, -, -, -⟩ := As.open h
  have HR := Aside0.mk hr
  have HC := Aside0.mk hc
  have H8 := Aside0.mk h8
  have hu := Try.underlying25
  have hu8 := Try.underlying28
  have hz := As.zero
  have HB := Aside0.mk (Below.refl w.heap.size w)
  clear h h16 hr h8
  cases he1 : decide (x.f8.length ≤ 2100 ∧ x.f9.length ≤ 300) with
  | false =>
    go_enter Try.func5, Try.ntmps5
    go_wp2_with (first
      | ((with_reducible refine gate_dst (N := 2) rfl ?_); refine box_event ?hg (N := 2) ?hd (cs := #[.int .i64 x.f0, .int .i64 x.f1, .int .i64 x.f2, .int .i64 x.f3, .int .i64 x.f4, .int .i64 x.f5, .int .i64 x.f6, .int .i64 x.f7, .slice A8 x.f8.length c8, .slice A9 x.f9.length c9]) (t := 25) ?hr ?_; (case hd => rfl); (case hg => rfl); (case hr => first | (go_simp; done) | (go_simp; rfl)); intro g2 hg w1 hbox hb; have GEg2 := Aside0.mk ((by rw [hg]; exact HB.out.size) : w.heap.size ≤ g2); have BKg2 := Aside0.mk hbox; clear hbox hg; have n0_ := Aside0.mk (below_step HB.out hb); clear HB; have HB := n0_; clear n0_; skip; clear hb)
      | (refine wpList_load_row rfl 25 _ rfl g2 rfl 25 _ (0, 0) _ BKg2.out hu rfl (by kernel_rfl) ?_)
      | (go_at_call 10; (with_reducible refine (As.fews (As.V_below HV.out HB.out) he1).mono ?_); rintro r w2 ⟨rfl, hb⟩; have n0_ := Aside0.mk (below_step HB.out hb); have n1_ := Aside0.mk (blk_below BKg2.out hb); clear HB BKg2; have HB := n0_; have BKg2 := n1_; clear n0_ n1_; clear hb)
      | (go_at_call 11; (with_reducible refine (As.sure).mono ?_); rintro r w9 ⟨rfl, hb⟩; have n0_ := Aside0.mk (below_step HB.out hb); clear HB; have HB := n0_; clear n0_; skip; clear hb))
    go_ret
    exact ⟨rfl, HB.out⟩
  | true =>
  by_cases q : 600 < l.length
  · have q1 : decide ((600 : Int) < (l.length : Int)) = true := decide_eq_true (by omega)
    have q2 : decide (600 < l.length) = true := decide_eq_true q
    go_enter Try.func5, Try.ntmps5
    go_wp2_with (first
      | ((with_reducible refine gate_dst (N := 2) rfl ?_); refine box_event ?hg (N := 2) ?hd (cs := #[.int .i64 x.f0, .int .i64 x.f1, .int .i64 x.f2, .int .i64 x.f3, .int .i64 x.f4, .int .i64 x.f5, .int .i64 x.f6, .int .i64 x.f7, .slice A8 x.f8.length c8, .slice A9 x.f9.length c9]) (t := 25) ?hr ?_; (case hd => rfl); (case hg => rfl); (case hr => first | (go_simp; done) | (go_simp; rfl)); intro g2 hg w1 hbox hb; have GEg2 := Aside0.mk ((by rw [hg]; exact HB.out.size) : w.heap.size ≤ g2); have BKg2 := Aside0.mk hbox; clear hbox hg; have n0_ := Aside0.mk (below_step HB.out hb); clear HB; have HB := n0_; clear n0_; skip; clear hb)
      | (refine wpList_load_row rfl 25 _ rfl g2 rfl 25 _ (0, 0) _ BKg2.out hu rfl (by kernel_rfl) ?_)
      | (go_at_call 10; (with_reducible refine (As.fews (As.V_below HV.out HB.out) he1).mono ?_); rintro r w2 ⟨rfl, hb⟩; have n0_ := Aside0.mk (below_step HB.out hb); have n1_ := Aside0.mk (blk_below BKg2.out hb); clear HB BKg2; have HB := n0_; have BKg2 := n1_; clear n0_ n1_; clear hb)
      | (go_at_call 11; (with_reducible refine (As.sure).mono ?_); rintro r w9 ⟨rfl, hb⟩; have n0_ := Aside0.mk (below_step HB.out hb); clear HB; have HB := n0_; clear n0_; skip; clear hb))
    go_ret
    exact ⟨rfl, HB.out⟩
  have q1 : decide ((600 : Int) < (l.length : Int)) = false := decide_eq_false (by omega)
  have q2 : decide (600 < l.length) = false := decide_eq_false q
  have HL := Aside0.mk (show l.length ≤ 1000000 by omega)
  clear q
  have HF := Aside0.mk (show As.Fit x from by have := of_decide_eq_true he1; exact ⟨by omega, by omega⟩)
  obtain ⟨y, E, he⟩ : ∃ y E, As.parse l = (y, E) := ⟨_, _, rfl⟩
  have hfb := As.parse_fit H8.out HL.out
  rw [he] at hfb
  have HE := Aside0.mk he
  have HFy := Aside0.mk (show As.Fit y from hfb.1)
  have H16y := Aside0.mk (show ∀ n ∈ y.f9, 0 ≤ n ∧ n ≤ 65535 from hfb.2)
  clear he hfb
  cases hb0 : As.right x with
  | false =>
    go_enter Try.func5, Try.ntmps5
    go_wp2_with (first
      | ((with_reducible refine gate_dst (N := 2) rfl ?_); refine box_event ?hg (N := 2) ?hd (cs := #[.int .i64 x.f0, .int .i64 x.f1, .int .i64 x.f2, .int .i64 x.f3, .int .i64 x.f4, .int .i64 x.f5, .int .i64 x.f6, .int .i64 x.f7, .slice A8 x.f8.length c8, .slice A9 x.f9.length c9]) (t := 25) ?hr ?_; (case hd => rfl); (case hg => rfl); (case hr => first | (go_simp; done) | (go_simp; rfl)); intro g2 hg w1 hbox hb; have GEg2 := Aside0.mk ((by rw [hg]; exact HB.out.size) : w.heap.size ≤ g2); have BKg2 := Aside0.mk hbox; clear hbox hg; have n0_ := Aside0.mk (below_step HB.out hb); clear HB; have HB := n0_; clear n0_; skip; clear hb)
      | (refine wpList_load_row rfl 25 _ rfl g2 rfl 25 _ (0, 0) _ BKg2.out hu rfl (by kernel_rfl) ?_)
      | (go_at_call 10; (with_reducible refine (As.fews (As.V_below HV.out HB.out) he1).mono ?_); rintro r w2 ⟨rfl, hb⟩; have n0_ := Aside0.mk (below_step HB.out hb); have n1_ := Aside0.mk (blk_below BKg2.out hb); clear HB BKg2; have HB := n0_; have BKg2 := n1_; clear n0_ n1_; clear hb)
      | (go_at_call 12; (with_reducible refine (As.prints (As.V_below HV.out HB.out) HF.out H16.out hb0).mono ?_); rintro r w3 ⟨vx, rfl, ho, hb⟩; have HP := Aside0.mk (Kd.R_lower ho HB.out.size); clear ho; have n0_ := Aside0.mk (below_step HB.out hb); have n1_ := Aside0.mk (blk_below BKg2.out hb); clear HB BKg2; have HB := n0_; have BKg2 := n1_; clear n0_ n1_; clear hb; obtain ⟨Ax, cx, ex⟩ := Kd.R_slice HP.out; subst ex))
    by_cases hE : E = 0
    rotate_left
    · have hEb : (E != 0) = true := by simpa using hE
      have HYZ := Aside0.mk (show As.eqb y z25 = true by rw [As.parse_err HE.out hE]; exact As.eqb_self _)
      clear hE
      go_wp2_with (first
        | (go_at_call 21; (with_reducible refine (As.parses (Kd.C_below HR.out HB.out) HC.out H8.out HL.out HE.out).mono ?_); rintro r w8 ⟨cs9, rfl, hV, hb⟩; obtain ⟨B8, d8, B9, d9, rfl, -, -, -, -⟩ := As.open hV; clear BKg2; have n0_ := Aside0.mk (below_step HB.out hb); clear HB; have HB := n0_; clear n0_; have HV9 := Aside0.mk hV; clear hV hb)
        | ((with_reducible refine gate_dst (N := 9) rfl ?_); refine box_event ?hg (N := 9) ?hd (cs := As.Z) (t := 25) ?hr ?_; (case hd => rfl); (case hg => rfl); (case hr => first | (go_simp; done) | (go_simp; rfl)); intro g9 hg w5 hbox hb; have GX := Aside0.mk (Nat.le_of_eq hg.symm); have HX := Aside0.mk hb; have BKg9 := Aside0.mk hbox; clear hg hbox hb)
        | ((with_reducible refine gate_store rfl ?_); refine As.store_row rfl 25 _ _ rfl g9 #[.int .i64 y.f0, .int .i64 y.f1, .int .i64 y.f2, .int .i64 y.f3, .int .i64 y.f4, .int .i64 y.f5, .int .i64 y.f6, .int .i64 y.f7, .slice B8 y.f8.length d8, .slice B9 y.f9.length d9] rfl rfl 25 _ BKg9.out (by rw [As.V_size HV9.out]; exact As.size) (by rw [As.V_size HV9.out]; rfl) (As.V_one HV9.out) ?_; intro w6 hgb hgr; have hb := HX.out.grown hgr HX.out.size (fun k hk => by cases hk; exact GX.out); have n0_ := Aside0.mk (below_step HB.out hb); have n1_ := Aside0.mk (As.V_below HV9.out hb); clear HB HV9; have HB := n0_; have HV9 := n1_; clear n0_ n1_; clear BKg9 GX HX hb hgr; have BKg9 := Aside0.mk hgb; clear hgb; skip)
        | ((with_reducible refine gate_dst (N := 59) rfl ?_); refine wpList_load_row rfl 25 _ rfl g9 rfl 25 _ (0, 0) _ BKg9.out hu rfl (by rw [As.V_size HV9.out]; exact As.size) ?_)
        | (go_at_call 20; (with_reducible refine (As.rsame HV9.out (As.V_zero _) HFy.out (HYZ.out)).mono ?_); rintro r w7 ⟨rfl, hb⟩; clear HV9 BKg9; have n0_ := Aside0.mk (below_step HB.out hb); clear HB; have HB := n0_; clear n0_; clear hb)
        | (go_at_call 11; (with_reducible refine (As.sure).mono ?_); rintro r w9 ⟨rfl, hb⟩; have n0_ := Aside0.mk (below_step HB.out hb); clear HB; have HB := n0_; clear n0_; skip; clear hb))
      go_ret
      exact ⟨rfl, HB.out⟩
    subst hE
    obtain ⟨hby_, hly, hny, -⟩ := As.parse_back H8.out HE.out
    have hby := Aside0.mk hby_
    have hsl := As.say_len hby_
    have hpy : As.print y = As.say y := by unfold As.print; rw [if_pos hby_]
    obtain ⟨sy, hsy⟩ : ∃ sy, As.say y = sy := ⟨_, rfl⟩
    rw [hsy] at hpy hly hny hsl
    have HPY := Aside0.mk hpy
    have HLY := Aside0.mk hly
    have HSLy := Aside0.mk hsl
    have HNY := Aside0.mk hny
    have HSY := Aside0.mk hsy
    have qlb : ((sy.length : Int) != (l.length : Int)) = false := by simp; omega
    have qlc : (sy.length != l.length) = false := by simp; omega
    clear hpy hny hsl hsy hby_
    obtain ⟨ad, ea, hx_⟩ := Kd.at_int HR.out 0 (by omega) (by have := HSLy.out; omega)
    clear hx_ hly
    subst ea
    by_cases hf : y.f0 = 15
    rotate_left
    · have hfb : (y.f0 == 15) = false := by simpa using hf
      have HEQ := Aside0.mk (show decide (sy = l) = true from decide_eq_true (As.near_same HNY.out HLY.out hf))
      clear hf
      go_wp2_with (first
        | (go_at_call 21; (with_reducible refine (As.parses (Kd.C_below HR.out HB.out) HC.out H8.out HL.out HE.out).mono ?_); rintro r w8 ⟨cs9, rfl, hV, hb⟩; obtain ⟨B8, d8, B9, d9, rfl, -, -, -, -⟩ := As.open hV; clear BKg2; have n0_ := Aside0.mk (below_step HB.out hb); clear HB; have HB := n0_; clear n0_; have HV9 := Aside0.mk hV; clear hV hb)
        | ((with_reducible refine gate_dst (N := 9) rfl ?_); refine box_event ?hg (N := 9) ?hd (cs := As.Z) (t := 25) ?hr ?_; (case hd => rfl); (case hg => rfl); (case hr => first | (go_simp; done) | (go_simp; rfl)); intro g9 hg w5 hbox hb; have GX := Aside0.mk (Nat.le_of_eq hg.symm); have HX := Aside0.mk hb; have BKg9 := Aside0.mk hbox; clear hg hbox hb)
        | ((with_reducible refine gate_store rfl ?_); refine As.store_row rfl 25 _ _ rfl g9 #[.int .i64 y.f0, .int .i64 y.f1, .int .i64 y.f2, .int .i64 y.f3, .int .i64 y.f4, .int .i64 y.f5, .int .i64 y.f6, .int .i64 y.f7, .slice B8 y.f8.length d8, .slice B9 y.f9.length d9] rfl rfl 25 _ BKg9.out (by rw [As.V_size HV9.out]; exact As.size) (by rw [As.V_size HV9.out]; rfl) (As.V_one HV9.out) ?_; intro w6 hgb hgr; have hb := HX.out.grown hgr HX.out.size (fun k hk => by cases hk; exact GX.out); have n0_ := Aside0.mk (below_step HB.out hb); have n1_ := Aside0.mk (As.V_below HV9.out hb); clear HB HV9; have HB := n0_; have HV9 := n1_; clear n0_ n1_; clear BKg9 GX HX hb hgr; have BKg9 := Aside0.mk hgb; clear hgb; skip)
        | ((with_reducible refine gate_dst (N := 66) rfl ?_); refine wpList_load_row rfl 25 _ rfl g9 rfl 25 _ (0, 0) _ BKg9.out hu rfl (by rw [As.V_size HV9.out]; exact As.size) ?_)
        | (go_at_call 12; (with_reducible refine (As.prints HV9.out HFy.out H16y.out hby.out).mono ?_); rintro r w3 ⟨vx, rfl, ho, hb⟩; rw [HPY.out] at ho; have HQ := Aside0.mk (Kd.R_lower ho HB.out.size); clear ho; have n0_ := Aside0.mk (below_step HB.out hb); have n1_ := Aside0.mk (As.V_below HV9.out hb); have n2_ := Aside0.mk (blk_below BKg9.out hb); clear HB HV9 BKg9; have HB := n0_; have HV9 := n1_; have BKg9 := n2_; clear n0_ n1_ n2_; clear hb; obtain ⟨Ay, cy, ey⟩ := Kd.R_slice HQ.out; subst ey)
        | ((with_reducible refine gate_dst (N := 73) rfl ?_); refine gate_guard (by rfl) ?_; dsimp only; refine wpList_load_row rfl 25 _ rfl g9 rfl 25 _ (0, 0) _ BKg9.out hu rfl (by rw [As.V_size HV9.out]; exact As.size) ?_)
        | (go_at_call 14; (with_reducible refine (As.rights HV9.out HFy.out hby.out).mono ?_); rintro r w13 ⟨rfl, hb⟩; have n0_ := Aside0.mk (below_step HB.out hb); have n1_ := Aside0.mk (As.V_below HV9.out hb); have n2_ := Aside0.mk (blk_below BKg9.out hb); have n3_ := Aside0.mk (Kd.R_below HQ.out hb); clear HB HV9 BKg9 HQ; have HB := n0_; have HV9 := n1_; have BKg9 := n2_; have HQ := n3_; clear n0_ n1_ n2_ n3_; clear hb))
      refine start_ (n := 11) (S := fun w' => Below w13.heap.size w13 w') (ds := []) (bt 11 0) (by kernel_rfl) rfl (by kernel_rfl) (below_drew1 (Below.refl _ _)) (fun hHeld => ?_)
      refine pure_ (i := 0) (N := some 84) (v := ?_) (a' := ?_) (bt 11 1) rfl rfl (by kernel_rfl) (fun _ _ _ h => h) (Or.inl ⟨by rfl, ?_⟩) ?_ ?_
      rotate_left
      · intro w'
        go_simp
        first | with_reducible rfl | (simp [Instr.field, go_sem]; rfl)
      rotate_left
      · simp only [Act.put, List.setIfInBounds_toArray, List.set_cons_zero, List.set_cons_succ]
        rfl
      refine take_ (i := 1) (N := some 85) (v := ?_) (a' := ?_) (bt 11 3) rfl rfl (by kernel_rfl) (fun _ _ _ h => h) (Or.inl ⟨by rfl, ?_⟩) hHeld ?_ ?_
      rotate_left
      · intro w' hS
        have cg9 := fun i => blk_cell (blk_below BKg9.out hS) i
        go_simp
        first | with_reducible rfl | (simp [Instr.field, go_sem]; rfl)
      rotate_left
      · simp only [Act.put, List.setIfInBounds_toArray, List.set_cons_zero, List.set_cons_succ]
        rfl
      refine pure_ (i := 2) (N := some 86) (v := ?_) (a' := ?_) (bt 11 7) rfl rfl (by kernel_rfl) (fun _ _ _ h => h) (Or.inl ⟨by rfl, ?_⟩) ?_ ?_
      rotate_left
      · intro w'
        go_simp
        first | with_reducible rfl | (simp [Instr.field, go_sem]; rfl)
      rotate_left
      · simp only [Act.put, List.setIfInBounds_toArray, List.set_cons_zero, List.set_cons_succ]
        rfl
      refine pure_ (i := 3) (N := some 87) (v := ?_) (a' := ?_) (bt 11 15) rfl rfl (by kernel_rfl) (fun _ _ _ h => h) (Or.inl ⟨by rfl, ?_⟩) ?_ ?_
      rotate_left
      · intro w'
        go_simp
        first | with_reducible rfl | (simp [Instr.field, go_sem]; rfl)
      rotate_left
      · simp only [Act.put, List.setIfInBounds_toArray, List.set_cons_zero, List.set_cons_succ]
        rfl
      refine pure_ (i := 4) (N := some 88) (v := undef) (a' := ?_) (bt 11 31) rfl rfl (by kernel_rfl) (fun _ _ _ h => h) (Or.inr ⟨by rfl, rfl⟩) ?_ ?_
      rotate_left
      · simp only [Act.put, List.setIfInBounds_toArray, List.set_cons_zero, List.set_cons_succ]
        rfl
      refine pure_ (i := 5) (N := some 89) (v := undef) (a' := ?_) (bt 11 63) rfl rfl (by kernel_rfl) (fun _ _ _ h => h) (Or.inr ⟨by rfl, rfl⟩) ?_ ?_
      rotate_left
      · simp only [Act.put, List.setIfInBounds_toArray, List.set_cons_zero, List.set_cons_succ]
        rfl
      refine pure_ (i := 6) (N := some 90) (v := undef) (a' := ?_) (bt 11 127) rfl rfl (by kernel_rfl) (fun _ _ _ h => h) (Or.inr ⟨by rfl, rfl⟩) ?_ ?_
      rotate_left
      · simp only [Act.put, List.setIfInBounds_toArray, List.set_cons_zero, List.set_cons_succ]
        rfl
      refine pure_ (i := 7) (N := some 91) (v := undef) (a' := ?_) (bt 11 255) rfl rfl (by kernel_rfl) (fun _ _ _ h => h) (Or.inr ⟨by rfl, rfl⟩) ?_ ?_
      rotate_left
      · simp only [Act.put, List.setIfInBounds_toArray, List.set_cons_zero, List.set_cons_succ]
        rfl
      refine pure_ (i := 8) (N := some 92) (v := undef) (a' := ?_) (bt 11 511) rfl rfl (by kernel_rfl) (fun _ _ _ h => h) (Or.inr ⟨by rfl, rfl⟩) ?_ ?_
      rotate_left
      · simp only [Act.put, List.setIfInBounds_toArray, List.set_cons_zero, List.set_cons_succ]
        rfl
      refine pure_ (i := 9) (N := some 93) (v := undef) (a' := ?_) (bt 11 1023) rfl rfl (by kernel_rfl) (fun _ _ _ h => h) (Or.inr ⟨by rfl, rfl⟩) ?_ ?_
      rotate_left
      · simp only [Act.put, List.setIfInBounds_toArray, List.set_cons_zero, List.set_cons_succ]
        rfl
      refine pure_ (i := 10) (N := some 94) (v := ?_) (a' := ?_) (bt 11 2047) rfl rfl (by kernel_rfl) (fun _ _ _ h => h) (Or.inl ⟨by rfl, ?_⟩) ?_ ?_
      rotate_left
      · intro w'
        go_simp
        first | with_reducible rfl | (simp [Instr.field, go_sem]; rfl)
      rotate_left
      · simp only [Act.put, List.setIfInBounds_toArray, List.set_cons_zero, List.set_cons_succ]
        rfl
      refine done_ (by kernel_rfl) ?_
      have n0_ := Aside0.mk (below_step HB.out hHeld)
      have n1_ := Aside0.mk (Kd.R_below HQ.out hHeld)
      clear HB HQ BKg9 HV9 hHeld
      have HB := n0_
      have HQ := n1_
      clear n0_ n1_
      go_wp2_with (first
        | (go_at_call 18; (with_reducible refine (As.bytesE (Kd.R_reads' HQ.out).2.2 (Kd.R_reads' HQ.out).2.1 (Kd.C_below HR.out HB.out) HC.out (by have := HSLy.out; omega) HEQ.out).mono ?_); rintro r w14 ⟨rfl, hb⟩; clear HQ; have n0_ := Aside0.mk (below_step HB.out hb); clear HB; have HB := n0_; clear n0_; clear hb)
        | (go_at_call 11; (with_reducible refine (As.sure).mono ?_); rintro r w9 ⟨rfl, hb⟩; have n0_ := Aside0.mk (below_step HB.out hb); clear HB; have HB := n0_; clear n0_; skip; clear hb))
      go_ret
      exact ⟨rfl, HB.out⟩
    have hfb : (y.f0 == 15) = true := by simpa using hf
    obtain ⟨h6, hi2, hti⟩ := As.back15 H8.out HE.out hf
    rw [HSY.out] at hti
    have hC6 := Kd.C_drop (m := 6) HR.out (by omega) HC.out
    rw [if_neg (show ¬ c1 = 6 by omega)] at hC6
    have HC6 := Aside0.mk hC6
    have HL7 := Aside0.mk (show l.length - 6 = (l.drop 6).length by rw [List.length_drop])
    obtain ⟨tb, ht1, ht2⟩ := tidy_eq (b := l.drop 6) (fun x hx => H8.out x (List.mem_of_mem_drop hx)) hi2 (by have := HL.out; have := HL7.out; omega)
    have HT := Aside0.mk ht1
    clear hC6 ht1 hf
    cases tb with
    | true =>
      have HEQ := Aside0.mk (show decide (sy = l) = true from decide_eq_true (hti.2 (ht2.1 rfl)))
      clear hti ht2 hi2
      go_wp2_with (first
        | (go_at_call 21; (with_reducible refine (As.parses (Kd.C_below HR.out HB.out) HC.out H8.out HL.out HE.out).mono ?_); rintro r w8 ⟨cs9, rfl, hV, hb⟩; obtain ⟨B8, d8, B9, d9, rfl, -, -, -, -⟩ := As.open hV; clear BKg2; have n0_ := Aside0.mk (below_step HB.out hb); clear HB; have HB := n0_; clear n0_; have HV9 := Aside0.mk hV; clear hV hb)
        | ((with_reducible refine gate_dst (N := 9) rfl ?_); refine box_event ?hg (N := 9) ?hd (cs := As.Z) (t := 25) ?hr ?_; (case hd => rfl); (case hg => rfl); (case hr => first | (go_simp; done) | (go_simp; rfl)); intro g9 hg w5 hbox hb; have GX := Aside0.mk (Nat.le_of_eq hg.symm); have HX := Aside0.mk hb; have BKg9 := Aside0.mk hbox; clear hg hbox hb)
        | ((with_reducible refine gate_store rfl ?_); refine As.store_row rfl 25 _ _ rfl g9 #[.int .i64 y.f0, .int .i64 y.f1, .int .i64 y.f2, .int .i64 y.f3, .int .i64 y.f4, .int .i64 y.f5, .int .i64 y.f6, .int .i64 y.f7, .slice B8 y.f8.length d8, .slice B9 y.f9.length d9] rfl rfl 25 _ BKg9.out (by rw [As.V_size HV9.out]; exact As.size) (by rw [As.V_size HV9.out]; rfl) (As.V_one HV9.out) ?_; intro w6 hgb hgr; have hb := HX.out.grown hgr HX.out.size (fun k hk => by cases hk; exact GX.out); have n0_ := Aside0.mk (below_step HB.out hb); have n1_ := Aside0.mk (As.V_below HV9.out hb); clear HB HV9; have HB := n0_; have HV9 := n1_; clear n0_ n1_; clear BKg9 GX HX hb hgr; have BKg9 := Aside0.mk hgb; clear hgb; skip)
        | ((with_reducible refine gate_dst (N := 66) rfl ?_); refine wpList_load_row rfl 25 _ rfl g9 rfl 25 _ (0, 0) _ BKg9.out hu rfl (by rw [As.V_size HV9.out]; exact As.size) ?_)
        | (go_at_call 12; (with_reducible refine (As.prints HV9.out HFy.out H16y.out hby.out).mono ?_); rintro r w3 ⟨vx, rfl, ho, hb⟩; rw [HPY.out] at ho; have HQ := Aside0.mk (Kd.R_lower ho HB.out.size); clear ho; have n0_ := Aside0.mk (below_step HB.out hb); have n1_ := Aside0.mk (As.V_below HV9.out hb); have n2_ := Aside0.mk (blk_below BKg9.out hb); clear HB HV9 BKg9; have HB := n0_; have HV9 := n1_; have BKg9 := n2_; clear n0_ n1_ n2_; clear hb; obtain ⟨Ay, cy, ey⟩ := Kd.R_slice HQ.out; subst ey)
        | ((with_reducible refine gate_dst (N := 73) rfl ?_); refine gate_guard (by rfl) ?_; dsimp only; refine wpList_load_row rfl 25 _ rfl g9 rfl 25 _ (0, 0) _ BKg9.out hu rfl (by rw [As.V_size HV9.out]; exact As.size) ?_)
        | (go_at_call 14; (with_reducible refine (As.rights HV9.out HFy.out hby.out).mono ?_); rintro r w13 ⟨rfl, hb⟩; have n0_ := Aside0.mk (below_step HB.out hb); have n1_ := Aside0.mk (As.V_below HV9.out hb); have n2_ := Aside0.mk (blk_below BKg9.out hb); have n3_ := Aside0.mk (Kd.R_below HQ.out hb); clear HB HV9 BKg9 HQ; have HB := n0_; have HV9 := n1_; have BKg9 := n2_; have HQ := n3_; clear n0_ n1_ n2_ n3_; clear hb))
      refine start_ (n := 11) (S := fun w' => Below w13.heap.size w13 w') (ds := []) (bt 11 0) (by kernel_rfl) rfl (by kernel_rfl) (below_drew1 (Below.refl _ _)) (fun hHeld => ?_)
      refine pure_ (i := 0) (N := some 84) (v := ?_) (a' := ?_) (bt 11 1) rfl rfl (by kernel_rfl) (fun _ _ _ h => h) (Or.inl ⟨by rfl, ?_⟩) ?_ ?_
      rotate_left
      · intro w'
        go_simp
        first | with_reducible rfl | (simp [Instr.field, go_sem]; rfl)
      rotate_left
      · simp only [Act.put, List.setIfInBounds_toArray, List.set_cons_zero, List.set_cons_succ]
        rfl
      refine take_ (i := 1) (N := some 85) (v := ?_) (a' := ?_) (bt 11 3) rfl rfl (by kernel_rfl) (fun _ _ _ h => h) (Or.inl ⟨by rfl, ?_⟩) hHeld ?_ ?_
      rotate_left
      · intro w' hS
        have cg9 := fun i => blk_cell (blk_below BKg9.out hS) i
        go_simp
        first | with_reducible rfl | (simp [Instr.field, go_sem]; rfl)
      rotate_left
      · simp only [Act.put, List.setIfInBounds_toArray, List.set_cons_zero, List.set_cons_succ]
        rfl
      refine pure_ (i := 2) (N := some 86) (v := ?_) (a' := ?_) (bt 11 7) rfl rfl (by kernel_rfl) (fun _ _ _ h => h) (Or.inl ⟨by rfl, ?_⟩) ?_ ?_
      rotate_left
      · intro w'
        go_simp
        first | with_reducible rfl | (simp [Instr.field, go_sem]; rfl)
      rotate_left
      · simp only [Act.put, List.setIfInBounds_toArray, List.set_cons_zero, List.set_cons_succ]
        rfl
      refine pure_ (i := 3) (N := some 87) (v := ?_) (a' := ?_) (bt 11 15) rfl rfl (by kernel_rfl) (fun _ _ _ h => h) (Or.inl ⟨by rfl, ?_⟩) ?_ ?_
      rotate_left
      · intro w'
        go_simp
        first | with_reducible rfl | (simp [Instr.field, go_sem]; rfl)
      rotate_left
      · simp only [Act.put, List.setIfInBounds_toArray, List.set_cons_zero, List.set_cons_succ]
        rfl
      refine pure_ (i := 4) (N := some 88) (v := ?_) (a' := ?_) (bt 11 31) rfl rfl (by kernel_rfl) (fun _ _ _ h => h) (Or.inl ⟨by rfl, ?_⟩) ?_ ?_
      rotate_left
      · intro w'
        go_simp
        first | with_reducible rfl | (simp [Instr.field, go_sem]; rfl)
      rotate_left
      · simp only [Act.put, List.setIfInBounds_toArray, List.set_cons_zero, List.set_cons_succ]
        rfl
      refine take_ (i := 5) (N := some 89) (v := ?_) (a' := ?_) (bt 11 63) rfl rfl (by kernel_rfl) (fun _ _ _ h => h) (Or.inl ⟨by rfl, ?_⟩) hHeld ?_ ?_
      rotate_left
      · intro w' hS
        go_simp
        rw [if_pos (show (6 : Int) ≤ (l.length : Int) by omega), if_neg (show ¬ c1 = 6 by omega)]
      rotate_left
      · simp only [Act.put, List.setIfInBounds_toArray, List.set_cons_zero, List.set_cons_succ]
        rfl
      refine pure_ (i := 6) (N := some 90) (v := ?_) (a' := ?_) (bt 11 127) rfl rfl (by kernel_rfl) (fun _ _ _ h => h) (Or.inl ⟨by rfl, ?_⟩) ?_ ?_
      rotate_left
      · intro w'
        go_simp
        first | with_reducible rfl | (simp [Instr.field, go_sem]; rfl)
      rotate_left
      · simp only [Act.put, List.setIfInBounds_toArray, List.set_cons_zero, List.set_cons_succ]
        rfl
      refine take_ (i := 7) (N := some 91) (v := ?_) (a' := ?_) (bt 11 255) rfl rfl (by kernel_rfl) (fun _ _ _ h => h) (Or.inl ⟨by rfl, ?_⟩) hHeld ?_ ?_
      rotate_left
      · intro w' hS
        have cg9 := fun i => blk_cell (blk_below BKg9.out hS) i
        go_simp
        first | with_reducible rfl | (simp [Instr.field, go_sem]; rfl)
      rotate_left
      · simp only [Act.put, List.setIfInBounds_toArray, List.set_cons_zero, List.set_cons_succ]
        rfl
      refine one_ (i := 8) (N := some 92) (bt 11 511) rfl rfl (by kernel_rfl) (by decide) (fun K hK => ?_)
      refine goes_ Try.func23 (by kernel_rfl) rfl #[.slice (some (ad.add 6)) (l.length - 6) (c1 - 6), .int .i64 y.f2] (by rfl) rfl rfl (by (try simp only [List.map_toArray, List.map_cons, List.map_nil]); first | done | rfl) ?_
      refine (As.tidys HL7.out (Kd.C_below HC6.out (below_step HB.out hHeld)) (by have := HC.out; have := HL7.out; omega) HT.out).mono ?_
      rintro e v8 ⟨rfl, hb⟩
      refine ⟨_, rfl, ?_⟩
      refine hK.out _ _ (below_step hHeld hb) (fun hHeld => ?_)
      clear hK K hb
      refine norm_ (a' := ?_) ?_ ?_
      rotate_left
      · show Act.put _ (some 92) _ = _
        simp only [Act.put, List.setIfInBounds_toArray, List.set_cons_zero, List.set_cons_succ]
        rfl
      refine pure_ (i := 9) (N := some 93) (v := ?_) (a' := ?_) (bt 11 1023) rfl rfl (by kernel_rfl) (fun _ _ _ h => h) (Or.inl ⟨by rfl, ?_⟩) ?_ ?_
      rotate_left
      · intro w'
        go_simp
        first | with_reducible rfl | (simp [Instr.field, go_sem]; rfl)
      rotate_left
      · simp only [Act.put, List.setIfInBounds_toArray, List.set_cons_zero, List.set_cons_succ]
        rfl
      refine pure_ (i := 10) (N := some 94) (v := ?_) (a' := ?_) (bt 11 2047) rfl rfl (by kernel_rfl) (fun _ _ _ h => h) (Or.inl ⟨by rfl, ?_⟩) ?_ ?_
      rotate_left
      · intro w'
        go_simp
        first | with_reducible rfl | (simp [Instr.field, go_sem]; rfl)
      rotate_left
      · simp only [Act.put, List.setIfInBounds_toArray, List.set_cons_zero, List.set_cons_succ]
        rfl
      refine done_ (by kernel_rfl) ?_
      have n0_ := Aside0.mk (below_step HB.out hHeld)
      have n1_ := Aside0.mk (Kd.R_below HQ.out hHeld)
      clear HB HQ BKg9 HV9 hHeld
      have HB := n0_
      have HQ := n1_
      clear n0_ n1_
      go_wp2_with (first
        | (go_at_call 18; (with_reducible refine (As.bytesE (Kd.R_reads' HQ.out).2.2 (Kd.R_reads' HQ.out).2.1 (Kd.C_below HR.out HB.out) HC.out (by have := HSLy.out; omega) HEQ.out).mono ?_); rintro r w14 ⟨rfl, hb⟩; clear HQ; have n0_ := Aside0.mk (below_step HB.out hb); clear HB; have HB := n0_; clear n0_; clear hb)
        | (go_at_call 11; (with_reducible refine (As.sure).mono ?_); rintro r w9 ⟨rfl, hb⟩; have n0_ := Aside0.mk (below_step HB.out hb); clear HB; have HB := n0_; clear n0_; skip; clear hb))
      go_ret
      exact ⟨rfl, HB.out⟩
    | false =>
      have HEQ := Aside0.mk (show decide (sy = l) = false from decide_eq_false (fun h => by cases ht2.2 (hti.1 h)))
      have HTK := Aside0.mk (show decide (sy.take (sy.length - 1) = l.take (sy.length - 1)) = true from decide_eq_true (As.near_take HNY.out HLY.out))
      clear hti ht2 hi2
      go_wp2_with (first
        | (go_at_call 21; (with_reducible refine (As.parses (Kd.C_below HR.out HB.out) HC.out H8.out HL.out HE.out).mono ?_); rintro r w8 ⟨cs9, rfl, hV, hb⟩; obtain ⟨B8, d8, B9, d9, rfl, -, -, -, -⟩ := As.open hV; clear BKg2; have n0_ := Aside0.mk (below_step HB.out hb); clear HB; have HB := n0_; clear n0_; have HV9 := Aside0.mk hV; clear hV hb)
        | ((with_reducible refine gate_dst (N := 9) rfl ?_); refine box_event ?hg (N := 9) ?hd (cs := As.Z) (t := 25) ?hr ?_; (case hd => rfl); (case hg => rfl); (case hr => first | (go_simp; done) | (go_simp; rfl)); intro g9 hg w5 hbox hb; have GX := Aside0.mk (Nat.le_of_eq hg.symm); have HX := Aside0.mk hb; have BKg9 := Aside0.mk hbox; clear hg hbox hb)
        | ((with_reducible refine gate_store rfl ?_); refine As.store_row rfl 25 _ _ rfl g9 #[.int .i64 y.f0, .int .i64 y.f1, .int .i64 y.f2, .int .i64 y.f3, .int .i64 y.f4, .int .i64 y.f5, .int .i64 y.f6, .int .i64 y.f7, .slice B8 y.f8.length d8, .slice B9 y.f9.length d9] rfl rfl 25 _ BKg9.out (by rw [As.V_size HV9.out]; exact As.size) (by rw [As.V_size HV9.out]; rfl) (As.V_one HV9.out) ?_; intro w6 hgb hgr; have hb := HX.out.grown hgr HX.out.size (fun k hk => by cases hk; exact GX.out); have n0_ := Aside0.mk (below_step HB.out hb); have n1_ := Aside0.mk (As.V_below HV9.out hb); clear HB HV9; have HB := n0_; have HV9 := n1_; clear n0_ n1_; clear BKg9 GX HX hb hgr; have BKg9 := Aside0.mk hgb; clear hgb; skip)
        | ((with_reducible refine gate_dst (N := 66) rfl ?_); refine wpList_load_row rfl 25 _ rfl g9 rfl 25 _ (0, 0) _ BKg9.out hu rfl (by rw [As.V_size HV9.out]; exact As.size) ?_)
        | (go_at_call 12; (with_reducible refine (As.prints HV9.out HFy.out H16y.out hby.out).mono ?_); rintro r w3 ⟨vx, rfl, ho, hb⟩; rw [HPY.out] at ho; have HQ := Aside0.mk (Kd.R_lower ho HB.out.size); clear ho; have n0_ := Aside0.mk (below_step HB.out hb); have n1_ := Aside0.mk (As.V_below HV9.out hb); have n2_ := Aside0.mk (blk_below BKg9.out hb); clear HB HV9 BKg9; have HB := n0_; have HV9 := n1_; have BKg9 := n2_; clear n0_ n1_ n2_; clear hb; obtain ⟨Ay, cy, ey⟩ := Kd.R_slice HQ.out; subst ey)
        | ((with_reducible refine gate_dst (N := 73) rfl ?_); refine gate_guard (by rfl) ?_; dsimp only; refine wpList_load_row rfl 25 _ rfl g9 rfl 25 _ (0, 0) _ BKg9.out hu rfl (by rw [As.V_size HV9.out]; exact As.size) ?_)
        | (go_at_call 14; (with_reducible refine (As.rights HV9.out HFy.out hby.out).mono ?_); rintro r w13 ⟨rfl, hb⟩; have n0_ := Aside0.mk (below_step HB.out hb); have n1_ := Aside0.mk (As.V_below HV9.out hb); have n2_ := Aside0.mk (blk_below BKg9.out hb); have n3_ := Aside0.mk (Kd.R_below HQ.out hb); clear HB HV9 BKg9 HQ; have HB := n0_; have HV9 := n1_; have BKg9 := n2_; have HQ := n3_; clear n0_ n1_ n2_ n3_; clear hb))
      refine start_ (n := 11) (S := fun w' => Below w13.heap.size w13 w') (ds := []) (bt 11 0) (by kernel_rfl) rfl (by kernel_rfl) (below_drew1 (Below.refl _ _)) (fun hHeld => ?_)
      refine pure_ (i := 0) (N := some 84) (v := ?_) (a' := ?_) (bt 11 1) rfl rfl (by kernel_rfl) (fun _ _ _ h => h) (Or.inl ⟨by rfl, ?_⟩) ?_ ?_
      rotate_left
      · intro w'
        go_simp
        first | with_reducible rfl | (simp [Instr.field, go_sem]; rfl)
      rotate_left
      · simp only [Act.put, List.setIfInBounds_toArray, List.set_cons_zero, List.set_cons_succ]
        rfl
      refine take_ (i := 1) (N := some 85) (v := ?_) (a' := ?_) (bt 11 3) rfl rfl (by kernel_rfl) (fun _ _ _ h => h) (Or.inl ⟨by rfl, ?_⟩) hHeld ?_ ?_
      rotate_left
      · intro w' hS
        have cg9 := fun i => blk_cell (blk_below BKg9.out hS) i
        go_simp
        first | with_reducible rfl | (simp [Instr.field, go_sem]; rfl)
      rotate_left
      · simp only [Act.put, List.setIfInBounds_toArray, List.set_cons_zero, List.set_cons_succ]
        rfl
      refine pure_ (i := 2) (N := some 86) (v := ?_) (a' := ?_) (bt 11 7) rfl rfl (by kernel_rfl) (fun _ _ _ h => h) (Or.inl ⟨by rfl, ?_⟩) ?_ ?_
      rotate_left
      · intro w'
        go_simp
        first | with_reducible rfl | (simp [Instr.field, go_sem]; rfl)
      rotate_left
      · simp only [Act.put, List.setIfInBounds_toArray, List.set_cons_zero, List.set_cons_succ]
        rfl
      refine pure_ (i := 3) (N := some 87) (v := ?_) (a' := ?_) (bt 11 15) rfl rfl (by kernel_rfl) (fun _ _ _ h => h) (Or.inl ⟨by rfl, ?_⟩) ?_ ?_
      rotate_left
      · intro w'
        go_simp
        first | with_reducible rfl | (simp [Instr.field, go_sem]; rfl)
      rotate_left
      · simp only [Act.put, List.setIfInBounds_toArray, List.set_cons_zero, List.set_cons_succ]
        rfl
      refine pure_ (i := 4) (N := some 88) (v := ?_) (a' := ?_) (bt 11 31) rfl rfl (by kernel_rfl) (fun _ _ _ h => h) (Or.inl ⟨by rfl, ?_⟩) ?_ ?_
      rotate_left
      · intro w'
        go_simp
        first | with_reducible rfl | (simp [Instr.field, go_sem]; rfl)
      rotate_left
      · simp only [Act.put, List.setIfInBounds_toArray, List.set_cons_zero, List.set_cons_succ]
        rfl
      refine take_ (i := 5) (N := some 89) (v := ?_) (a' := ?_) (bt 11 63) rfl rfl (by kernel_rfl) (fun _ _ _ h => h) (Or.inl ⟨by rfl, ?_⟩) hHeld ?_ ?_
      rotate_left
      · intro w' hS
        go_simp
        rw [if_pos (show (6 : Int) ≤ (l.length : Int) by omega), if_neg (show ¬ c1 = 6 by omega)]
      rotate_left
      · simp only [Act.put, List.setIfInBounds_toArray, List.set_cons_zero, List.set_cons_succ]
        rfl
      refine pure_ (i := 6) (N := some 90) (v := ?_) (a' := ?_) (bt 11 127) rfl rfl (by kernel_rfl) (fun _ _ _ h => h) (Or.inl ⟨by rfl, ?_⟩) ?_ ?_
      rotate_left
      · intro w'
        go_simp
        first | with_reducible rfl | (simp [Instr.field, go_sem]; rfl)
      rotate_left
      · simp only [Act.put, List.setIfInBounds_toArray, List.set_cons_zero, List.set_cons_succ]
        rfl
      refine take_ (i := 7) (N := some 91) (v := ?_) (a' := ?_) (bt 11 255) rfl rfl (by kernel_rfl) (fun _ _ _ h => h) (Or.inl ⟨by rfl, ?_⟩) hHeld ?_ ?_
      rotate_left
      · intro w' hS
        have cg9 := fun i => blk_cell (blk_below BKg9.out hS) i
        go_simp
        first | with_reducible rfl | (simp [Instr.field, go_sem]; rfl)
      rotate_left
      · simp only [Act.put, List.setIfInBounds_toArray, List.set_cons_zero, List.set_cons_succ]
        rfl
      refine one_ (i := 8) (N := some 92) (bt 11 511) rfl rfl (by kernel_rfl) (by decide) (fun K hK => ?_)
      refine goes_ Try.func23 (by kernel_rfl) rfl #[.slice (some (ad.add 6)) (l.length - 6) (c1 - 6), .int .i64 y.f2] (by rfl) rfl rfl (by (try simp only [List.map_toArray, List.map_cons, List.map_nil]); first | done | rfl) ?_
      refine (As.tidys HL7.out (Kd.C_below HC6.out (below_step HB.out hHeld)) (by have := HC.out; have := HL7.out; omega) HT.out).mono ?_
      rintro e v8 ⟨rfl, hb⟩
      refine ⟨_, rfl, ?_⟩
      refine hK.out _ _ (below_step hHeld hb) (fun hHeld => ?_)
      clear hK K hb
      refine norm_ (a' := ?_) ?_ ?_
      rotate_left
      · show Act.put _ (some 92) _ = _
        simp only [Act.put, List.setIfInBounds_toArray, List.set_cons_zero, List.set_cons_succ]
        rfl
      refine pure_ (i := 9) (N := some 93) (v := ?_) (a' := ?_) (bt 11 1023) rfl rfl (by kernel_rfl) (fun _ _ _ h => h) (Or.inl ⟨by rfl, ?_⟩) ?_ ?_
      rotate_left
      · intro w'
        go_simp
        first | with_reducible rfl | (simp [Instr.field, go_sem]; rfl)
      rotate_left
      · simp only [Act.put, List.setIfInBounds_toArray, List.set_cons_zero, List.set_cons_succ]
        rfl
      refine pure_ (i := 10) (N := some 94) (v := ?_) (a' := ?_) (bt 11 2047) rfl rfl (by kernel_rfl) (fun _ _ _ h => h) (Or.inl ⟨by rfl, ?_⟩) ?_ ?_
      rotate_left
      · intro w'
        go_simp
        first | with_reducible rfl | (simp [Instr.field, go_sem]; rfl)
      rotate_left
      · simp only [Act.put, List.setIfInBounds_toArray, List.set_cons_zero, List.set_cons_succ]
        rfl
      refine done_ (by kernel_rfl) ?_
      have n0_ := Aside0.mk (below_step HB.out hHeld)
      have n1_ := Aside0.mk (Kd.R_below HQ.out hHeld)
      clear HB HQ BKg9 HV9 hHeld
      have HB := n0_
      have HQ := n1_
      clear n0_ n1_
      go_wp2
      refine start_ (n := 21) (S := fun w' => Below v8.heap.size v8 w') (ds := []) (bt 21 0) (by kernel_rfl) rfl (by kernel_rfl) (below_drew1 (Below.refl _ _)) (fun hHeld => ?_)
      refine pure_ (i := 0) (N := some 95) (v := ?_) (a' := ?_) (bt 21 1) rfl rfl (by kernel_rfl) (fun _ _ _ h => h) (Or.inl ⟨by rfl, ?_⟩) ?_ ?_
      rotate_left
      · intro w'
        go_simp
        first | with_reducible rfl | (simp [Instr.field, go_sem]; rfl)
      rotate_left
      · simp only [Act.put, List.setIfInBounds_toArray, List.set_cons_zero, List.set_cons_succ]
        rfl
      refine pure_ (i := 1) (N := some 96) (v := ?_) (a' := ?_) (bt 21 3) rfl rfl (by kernel_rfl) (fun _ _ _ h => h) (Or.inl ⟨by rfl, ?_⟩) ?_ ?_
      rotate_left
      · intro w'
        go_simp
        first | with_reducible rfl | (simp [Instr.field, go_sem]; rfl)
      rotate_left
      · simp only [Act.put, List.setIfInBounds_toArray, List.set_cons_zero, List.set_cons_succ]
        rfl
      refine one_ (i := 2) (N := some 97) (bt 21 7) rfl rfl (by kernel_rfl) (by decide) (fun K hK => ?_)
      refine goes_ Try.func18 (by kernel_rfl) rfl #[.slice Ay sy.length cy, .slice (some ad) l.length c1] (by rfl) rfl rfl (by (try simp only [List.map_toArray, List.map_cons, List.map_nil]); first | done | rfl) ?_
      refine (As.bytesE (Kd.C_below (Kd.R_reads' HQ.out).2.2 hHeld) (Kd.R_reads' HQ.out).2.1 (Kd.C_below HR.out (below_step HB.out hHeld)) HC.out (by have := HSLy.out; omega) HEQ.out).mono ?_
      rintro e v2 ⟨rfl, hb⟩
      refine ⟨_, rfl, ?_⟩
      refine hK.out _ _ (below_step hHeld hb) (fun hHeld => ?_)
      clear hK K hb
      refine norm_ (a' := ?_) ?_ ?_
      rotate_left
      · show Act.put _ (some 97) _ = _
        simp only [Act.put, List.setIfInBounds_toArray, List.set_cons_zero, List.set_cons_succ]
        rfl
      refine pure_ (i := 3) (N := some 98) (v := ?_) (a' := ?_) (bt 21 15) rfl rfl (by kernel_rfl) (fun _ _ _ h => h) (Or.inl ⟨by rfl, ?_⟩) ?_ ?_
      rotate_left
      · intro w'
        go_simp
        first | with_reducible rfl | (simp [Instr.field, go_sem]; rfl)
      rotate_left
      · simp only [Act.put, List.setIfInBounds_toArray, List.set_cons_zero, List.set_cons_succ]
        rfl
      refine pure_ (i := 4) (N := some 99) (v := ?_) (a' := ?_) (bt 21 31) rfl rfl (by kernel_rfl) (fun _ _ _ h => h) (Or.inl ⟨by rfl, ?_⟩) ?_ ?_
      rotate_left
      · intro w'
        go_simp
        first | with_reducible rfl | (simp [Instr.field, go_sem]; rfl)
      rotate_left
      · simp only [Act.put, List.setIfInBounds_toArray, List.set_cons_zero, List.set_cons_succ]
        rfl
      refine pure_ (i := 5) (N := some 100) (v := ?_) (a' := ?_) (bt 21 63) rfl rfl (by kernel_rfl) (fun _ _ _ h => h) (Or.inl ⟨by rfl, ?_⟩) ?_ ?_
      rotate_left
      · intro w'
        go_simp
        first | with_reducible rfl | (simp [Instr.field, go_sem]; rfl)
      rotate_left
      · simp only [Act.put, List.setIfInBounds_toArray, List.set_cons_zero, List.set_cons_succ]
        rfl
      refine pure_ (i := 6) (N := some 101) (v := ?_) (a' := ?_) (bt 21 127) rfl rfl (by kernel_rfl) (fun _ _ _ h => h) (Or.inl ⟨by rfl, ?_⟩) ?_ ?_
      rotate_left
      · intro w'
        go_simp
        first | with_reducible rfl | (simp [Instr.field, go_sem]; rfl)
      rotate_left
      · simp only [Act.put, List.setIfInBounds_toArray, List.set_cons_zero, List.set_cons_succ]
        rfl
      refine pure_ (i := 7) (N := some 102) (v := ?_) (a' := ?_) (bt 21 255) rfl rfl (by kernel_rfl) (fun _ _ _ h => h) (Or.inl ⟨by rfl, ?_⟩) ?_ ?_
      rotate_left
      · intro w'
        go_simp
        first | with_reducible rfl | (simp [Instr.field, go_sem]; rfl)
      rotate_left
      · simp only [Act.put, List.setIfInBounds_toArray, List.set_cons_zero, List.set_cons_succ]
        rfl
      refine pure_ (i := 8) (N := some 103) (v := ?_) (a' := ?_) (bt 21 511) rfl rfl (by kernel_rfl) (fun _ _ _ h => h) (Or.inl ⟨by rfl, ?_⟩) ?_ ?_
      rotate_left
      · intro w'
        go_simp
        first | with_reducible rfl | (simp [Instr.field, go_sem]; rfl)
      rotate_left
      · simp only [Act.put, List.setIfInBounds_toArray, List.set_cons_zero, List.set_cons_succ]
        rfl
      refine take_ (i := 9) (N := some 104) (v := ?_) (a' := ?_) (bt 21 1023) rfl rfl (by kernel_rfl) (fun _ _ _ h => h) (Or.inl ⟨by rfl, ?_⟩) hHeld ?_ ?_
      rotate_left
      · intro w' hS
        go_simp
        have hcap := (Kd.R_reads' HQ.out).2.1
        have hsl_ := HSLy.out
        have hll_ := HLY.out
        have hw_ : IntKind.i64.wrap ((sy.length : Int) - 1) = ((sy.length - 1 : Nat) : Int) := by rw [i64_w, w64 ⟨by omega, by omega⟩]; omega
        rw [hw_, if_pos ⟨by omega, by omega⟩, Int.toNat_natCast]
      rotate_left
      · simp only [Act.put, List.setIfInBounds_toArray, List.set_cons_zero, List.set_cons_succ]
        rfl
      refine pure_ (i := 10) (N := some 105) (v := ?_) (a' := ?_) (bt 21 2047) rfl rfl (by kernel_rfl) (fun _ _ _ h => h) (Or.inl ⟨by rfl, ?_⟩) ?_ ?_
      rotate_left
      · intro w'
        go_simp
        first | with_reducible rfl | (simp [Instr.field, go_sem]; rfl)
      rotate_left
      · simp only [Act.put, List.setIfInBounds_toArray, List.set_cons_zero, List.set_cons_succ]
        rfl
      refine pure_ (i := 11) (N := some 106) (v := ?_) (a' := ?_) (bt 21 4095) rfl rfl (by kernel_rfl) (fun _ _ _ h => h) (Or.inl ⟨by rfl, ?_⟩) ?_ ?_
      rotate_left
      · intro w'
        go_simp
        first | with_reducible rfl | (simp [Instr.field, go_sem]; rfl)
      rotate_left
      · simp only [Act.put, List.setIfInBounds_toArray, List.set_cons_zero, List.set_cons_succ]
        rfl
      refine pure_ (i := 12) (N := some 107) (v := ?_) (a' := ?_) (bt 21 8191) rfl rfl (by kernel_rfl) (fun _ _ _ h => h) (Or.inl ⟨by rfl, ?_⟩) ?_ ?_
      rotate_left
      · intro w'
        go_simp
        first | with_reducible rfl | (simp [Instr.field, go_sem]; rfl)
      rotate_left
      · simp only [Act.put, List.setIfInBounds_toArray, List.set_cons_zero, List.set_cons_succ]
        rfl
      refine pure_ (i := 13) (N := some 108) (v := ?_) (a' := ?_) (bt 21 16383) rfl rfl (by kernel_rfl) (fun _ _ _ h => h) (Or.inl ⟨by rfl, ?_⟩) ?_ ?_
      rotate_left
      · intro w'
        go_simp
        first | with_reducible rfl | (simp [Instr.field, go_sem]; rfl)
      rotate_left
      · simp only [Act.put, List.setIfInBounds_toArray, List.set_cons_zero, List.set_cons_succ]
        rfl
      refine take_ (i := 14) (N := some 109) (v := ?_) (a' := ?_) (bt 21 32767) rfl rfl (by kernel_rfl) (fun _ _ _ h => h) (Or.inl ⟨by rfl, ?_⟩) hHeld ?_ ?_
      rotate_left
      · intro w' hS
        go_simp
        have hcap := HC.out
        have hsl_ := HSLy.out
        have hll_ := HLY.out
        have hw_ : IntKind.i64.wrap ((sy.length : Int) - 1) = ((sy.length - 1 : Nat) : Int) := by rw [i64_w, w64 ⟨by omega, by omega⟩]; omega
        rw [hw_, if_pos ⟨by omega, by omega⟩, Int.toNat_natCast]
      rotate_left
      · simp only [Act.put, List.setIfInBounds_toArray, List.set_cons_zero, List.set_cons_succ]
        rfl
      refine one_ (i := 15) (N := some 110) (bt 21 65535) rfl rfl (by kernel_rfl) (by decide) (fun K hK => ?_)
      refine goes_ Try.func18 (by kernel_rfl) rfl #[.slice Ay (sy.length - 1) cy, .slice (some ad) (sy.length - 1) c1] (by rfl) rfl rfl (by (try simp only [List.map_toArray, List.map_cons, List.map_nil]); first | done | rfl) ?_
      refine (As.bytesN (l := sy.take (sy.length - 1)) (m := l.take (sy.length - 1)) (by simp) (by have := HLY.out; simp; omega) (Kd.C_take (Kd.C_below (Kd.R_reads' HQ.out).2.2 hHeld) (by omega)) (by have := (Kd.R_reads' HQ.out).2.1; simp; omega) (Kd.C_take (Kd.C_below HR.out (below_step HB.out hHeld)) (by have := HLY.out; omega)) (by have := HC.out; simp; omega) (by have := HSLy.out; simp; omega) HTK.out).mono ?_
      rintro e v15 ⟨rfl, hb⟩
      refine ⟨_, rfl, ?_⟩
      refine hK.out _ _ (below_step hHeld hb) (fun hHeld => ?_)
      clear hK K hb
      refine norm_ (a' := ?_) ?_ ?_
      rotate_left
      · show Act.put _ (some 110) _ = _
        simp only [Act.put, List.setIfInBounds_toArray, List.set_cons_zero, List.set_cons_succ]
        rfl
      refine pure_ (i := 16) (N := some 111) (v := ?_) (a' := ?_) (bt 21 131071) rfl rfl (by kernel_rfl) (fun _ _ _ h => h) (Or.inl ⟨by rfl, ?_⟩) ?_ ?_
      rotate_left
      · intro w'
        go_simp
        first | with_reducible rfl | (simp [Instr.field, go_sem]; rfl)
      rotate_left
      · simp only [Act.put, List.setIfInBounds_toArray, List.set_cons_zero, List.set_cons_succ]
        rfl
      refine pure_ (i := 17) (N := some 112) (v := ?_) (a' := ?_) (bt 21 262143) rfl rfl (by kernel_rfl) (fun _ _ _ h => h) (Or.inl ⟨by rfl, ?_⟩) ?_ ?_
      rotate_left
      · intro w'
        go_simp
        first | with_reducible rfl | (simp [Instr.field, go_sem]; rfl)
      rotate_left
      · simp only [Act.put, List.setIfInBounds_toArray, List.set_cons_zero, List.set_cons_succ]
        rfl
      refine one_ (i := 18) (N := some 113) (bt 21 524287) rfl rfl (by kernel_rfl) (by decide) (fun K hK => ?_)
      refine goes_ Try.func11 (by kernel_rfl) rfl #[] (by rfl) rfl rfl (by (try simp only [List.map_toArray, List.map_cons, List.map_nil]); first | done | rfl) ?_
      refine (As.sure).mono ?_
      rintro e v18 ⟨rfl, hb⟩
      refine ⟨_, rfl, ?_⟩
      refine hK.out _ _ (below_step hHeld hb) (fun hHeld => ?_)
      clear hK K hb
      refine norm_ (a' := ?_) ?_ ?_
      rotate_left
      · show Act.put _ (some 113) _ = _
        simp only [Act.put, List.setIfInBounds_toArray, List.set_cons_zero, List.set_cons_succ]
        rfl
      refine pure_ (i := 19) (N := some 114) (v := ?_) (a' := ?_) (bt 21 1048575) rfl rfl (by kernel_rfl) (fun _ _ _ h => h) (Or.inl ⟨by rfl, ?_⟩) ?_ ?_
      rotate_left
      · intro w'
        go_simp
        first | with_reducible rfl | (simp [Instr.field, go_sem]; rfl)
      rotate_left
      · simp only [Act.put, List.setIfInBounds_toArray, List.set_cons_zero, List.set_cons_succ]
        rfl
      refine pure_ (i := 20) (N := some 4) (v := ?_) (a' := ?_) (bt 21 2097151) rfl rfl (by kernel_rfl) (fun _ _ _ h => h) (Or.inl ⟨by rfl, ?_⟩) ?_ ?_
      rotate_left
      · intro w'
        go_simp
        first | with_reducible rfl | (simp [Instr.field, go_sem]; rfl)
      rotate_left
      · simp only [Act.put, List.setIfInBounds_toArray, List.set_cons_zero, List.set_cons_succ]
        rfl
      refine done_ (by kernel_rfl) ?_
      go_wp2
      go_ret
      exact ⟨rfl, below_step HB.out hHeld⟩
  | true =>
    have hps := As.parse_say hb0 H16.out
    have hsu := As.say_u8 hb0 H16.out
    have hsl := As.say_len hb0
    have hpx : As.print x = As.say x := by unfold As.print; rw [if_pos hb0]
    obtain ⟨sx, hsx⟩ : ∃ sx, As.say x = sx := ⟨_, rfl⟩
    rw [hsx] at hps hsu hsl hpx
    have HPX := Aside0.mk hpx
    have HPS := Aside0.mk hps
    have HSU := Aside0.mk hsu
    have HSL := Aside0.mk hsl
    have z1 : decide ((253 : Int) < (sx.length : Int)) = false := decide_eq_false (by omega)
    have z2 : decide (253 < sx.length) = false := decide_eq_false (by omega)
    have z3 : decide ((sx.length : Int) < 5) = false := decide_eq_false (by omega)
    have z4 : decide (sx.length < 5) = false := decide_eq_false (by omega)
    clear hps hsu hsl hpx hsx
    go_enter Try.func5, Try.ntmps5
    go_wp2_with (first
      | ((with_reducible refine gate_dst (N := 2) rfl ?_); refine box_event ?hg (N := 2) ?hd (cs := #[.int .i64 x.f0, .int .i64 x.f1, .int .i64 x.f2, .int .i64 x.f3, .int .i64 x.f4, .int .i64 x.f5, .int .i64 x.f6, .int .i64 x.f7, .slice A8 x.f8.length c8, .slice A9 x.f9.length c9]) (t := 25) ?hr ?_; (case hd => rfl); (case hg => rfl); (case hr => first | (go_simp; done) | (go_simp; rfl)); intro g2 hg w1 hbox hb; have GEg2 := Aside0.mk ((by rw [hg]; exact HB.out.size) : w.heap.size ≤ g2); have BKg2 := Aside0.mk hbox; clear hbox hg; have n0_ := Aside0.mk (below_step HB.out hb); clear HB; have HB := n0_; clear n0_; skip; clear hb)
      | (refine wpList_load_row rfl 25 _ rfl g2 rfl 25 _ (0, 0) _ BKg2.out hu rfl (by kernel_rfl) ?_)
      | (go_at_call 10; (with_reducible refine (As.fews (As.V_below HV.out HB.out) he1).mono ?_); rintro r w2 ⟨rfl, hb⟩; have n0_ := Aside0.mk (below_step HB.out hb); have n1_ := Aside0.mk (blk_below BKg2.out hb); clear HB BKg2; have HB := n0_; have BKg2 := n1_; clear n0_ n1_; clear hb)
      | (go_at_call 12; (with_reducible refine (As.prints (As.V_below HV.out HB.out) HF.out H16.out hb0).mono ?_); rintro r w3 ⟨vx, rfl, ho, hb⟩; rw [HPX.out] at ho; have HP := Aside0.mk (Kd.R_lower ho HB.out.size); clear ho; have n0_ := Aside0.mk (below_step HB.out hb); have n1_ := Aside0.mk (blk_below BKg2.out hb); clear HB BKg2; have HB := n0_; have BKg2 := n1_; clear n0_ n1_; clear hb; obtain ⟨Ax, cx, ex⟩ := Kd.R_slice HP.out; subst ex)
      | (go_at_call 21; (with_reducible refine (As.parses (Kd.R_reads' HP.out).2.2 (Kd.R_reads' HP.out).2.1 HSU.out (by have := HSL.out; omega) HPS.out).mono ?_); rintro r w4 ⟨cs7, rfl, hV, hb⟩; have n0_ := Aside0.mk (below_step HB.out hb); have n1_ := Aside0.mk (blk_below BKg2.out hb); clear HB BKg2; have HB := n0_; have BKg2 := n1_; clear n0_ n1_; have HV7 := Aside0.mk hV; clear hV hb)
      | ((with_reducible refine gate_dst (N := 7) rfl ?_); refine box_event ?hg (N := 7) ?hd (cs := As.Z) (t := 25) ?hr ?_; (case hd => rfl); (case hg => rfl); (case hr => first | (go_simp; done) | (go_simp; rfl)); intro g7 hg w5 hbox hb; have GX := Aside0.mk (Nat.le_of_eq hg.symm); have HX := Aside0.mk hb; have BKg7 := Aside0.mk hbox; clear hg hbox hb)
      | ((with_reducible refine gate_store rfl ?_); refine As.store_row rfl 25 _ _ rfl g7 cs7 rfl rfl 25 _ BKg7.out (by rw [As.V_size HV7.out]; exact As.size) (by rw [As.V_size HV7.out]; rfl) (As.V_one HV7.out) ?_; intro w6 hgb hgr; have hb := HX.out.grown hgr HX.out.size (fun k hk => by cases hk; exact GX.out); have n0_ := Aside0.mk (below_step HB.out hb); have n1_ := Aside0.mk (blk_below BKg2.out hb); have n2_ := Aside0.mk (As.V_below HV7.out hb); clear HB BKg2 HV7; have HB := n0_; have BKg2 := n1_; have HV7 := n2_; clear n0_ n1_ n2_; clear BKg7 GX HX hb hgr; have BKg7 := Aside0.mk hgb; clear hgb; skip)
      | ((with_reducible refine gate_dst (N := 37) rfl ?_); refine gate_guard (by rfl) ?_; dsimp only; refine wpList_load_row rfl 25 _ rfl g2 rfl 25 _ (0, 0) _ BKg2.out hu rfl (by kernel_rfl) ?_)
      | ((with_reducible refine gate_dst (N := 38) rfl ?_); refine gate_guard (by rfl) ?_; dsimp only; refine wpList_load_row rfl 25 _ rfl g7 rfl 25 _ (0, 0) _ BKg7.out hu rfl (by rw [As.V_size HV7.out]; exact As.size) ?_)
      | (go_at_call 20; (with_reducible refine (As.rsame (As.V_below HV.out HB.out) HV7.out HF.out (As.eqb_self _)).mono ?_); rintro r w7 ⟨rfl, hb⟩; clear HV7 BKg7; have n0_ := Aside0.mk (below_step HB.out hb); have n1_ := Aside0.mk (blk_below BKg2.out hb); clear HB BKg2; have HB := n0_; have BKg2 := n1_; clear n0_ n1_; clear hb))
    clear z1 z2 z3 z4
    by_cases hE : E = 0
    rotate_left
    · have hEb : (E != 0) = true := by simpa using hE
      have HYZ := Aside0.mk (show As.eqb y z25 = true by rw [As.parse_err HE.out hE]; exact As.eqb_self _)
      clear hE
      go_wp2_with (first
        | (go_at_call 21; (with_reducible refine (As.parses (Kd.C_below HR.out HB.out) HC.out H8.out HL.out HE.out).mono ?_); rintro r w8 ⟨cs9, rfl, hV, hb⟩; obtain ⟨B8, d8, B9, d9, rfl, -, -, -, -⟩ := As.open hV; clear BKg2; have n0_ := Aside0.mk (below_step HB.out hb); clear HB; have HB := n0_; clear n0_; have HV9 := Aside0.mk hV; clear hV hb)
        | ((with_reducible refine gate_dst (N := 9) rfl ?_); refine box_event ?hg (N := 9) ?hd (cs := As.Z) (t := 25) ?hr ?_; (case hd => rfl); (case hg => rfl); (case hr => first | (go_simp; done) | (go_simp; rfl)); intro g9 hg w5 hbox hb; have GX := Aside0.mk (Nat.le_of_eq hg.symm); have HX := Aside0.mk hb; have BKg9 := Aside0.mk hbox; clear hg hbox hb)
        | ((with_reducible refine gate_store rfl ?_); refine As.store_row rfl 25 _ _ rfl g9 #[.int .i64 y.f0, .int .i64 y.f1, .int .i64 y.f2, .int .i64 y.f3, .int .i64 y.f4, .int .i64 y.f5, .int .i64 y.f6, .int .i64 y.f7, .slice B8 y.f8.length d8, .slice B9 y.f9.length d9] rfl rfl 25 _ BKg9.out (by rw [As.V_size HV9.out]; exact As.size) (by rw [As.V_size HV9.out]; rfl) (As.V_one HV9.out) ?_; intro w6 hgb hgr; have hb := HX.out.grown hgr HX.out.size (fun k hk => by cases hk; exact GX.out); have n0_ := Aside0.mk (below_step HB.out hb); have n1_ := Aside0.mk (As.V_below HV9.out hb); clear HB HV9; have HB := n0_; have HV9 := n1_; clear n0_ n1_; clear BKg9 GX HX hb hgr; have BKg9 := Aside0.mk hgb; clear hgb; skip)
        | ((with_reducible refine gate_dst (N := 59) rfl ?_); refine wpList_load_row rfl 25 _ rfl g9 rfl 25 _ (0, 0) _ BKg9.out hu rfl (by rw [As.V_size HV9.out]; exact As.size) ?_)
        | (go_at_call 20; (with_reducible refine (As.rsame HV9.out (As.V_zero _) HFy.out (HYZ.out)).mono ?_); rintro r w7 ⟨rfl, hb⟩; clear HV9 BKg9; have n0_ := Aside0.mk (below_step HB.out hb); clear HB; have HB := n0_; clear n0_; clear hb)
        | (go_at_call 11; (with_reducible refine (As.sure).mono ?_); rintro r w9 ⟨rfl, hb⟩; have n0_ := Aside0.mk (below_step HB.out hb); clear HB; have HB := n0_; clear n0_; skip; clear hb))
      go_ret
      exact ⟨rfl, HB.out⟩
    subst hE
    obtain ⟨hby_, hly, hny, -⟩ := As.parse_back H8.out HE.out
    have hby := Aside0.mk hby_
    have hsl := As.say_len hby_
    have hpy : As.print y = As.say y := by unfold As.print; rw [if_pos hby_]
    obtain ⟨sy, hsy⟩ : ∃ sy, As.say y = sy := ⟨_, rfl⟩
    rw [hsy] at hpy hly hny hsl
    have HPY := Aside0.mk hpy
    have HLY := Aside0.mk hly
    have HSLy := Aside0.mk hsl
    have HNY := Aside0.mk hny
    have HSY := Aside0.mk hsy
    have qlb : ((sy.length : Int) != (l.length : Int)) = false := by simp; omega
    have qlc : (sy.length != l.length) = false := by simp; omega
    clear hpy hny hsl hsy hby_
    obtain ⟨ad, ea, hx_⟩ := Kd.at_int HR.out 0 (by omega) (by have := HSLy.out; omega)
    clear hx_ hly
    subst ea
    by_cases hf : y.f0 = 15
    rotate_left
    · have hfb : (y.f0 == 15) = false := by simpa using hf
      have HEQ := Aside0.mk (show decide (sy = l) = true from decide_eq_true (As.near_same HNY.out HLY.out hf))
      clear hf
      go_wp2_with (first
        | (go_at_call 21; (with_reducible refine (As.parses (Kd.C_below HR.out HB.out) HC.out H8.out HL.out HE.out).mono ?_); rintro r w8 ⟨cs9, rfl, hV, hb⟩; obtain ⟨B8, d8, B9, d9, rfl, -, -, -, -⟩ := As.open hV; clear BKg2; have n0_ := Aside0.mk (below_step HB.out hb); clear HB; have HB := n0_; clear n0_; have HV9 := Aside0.mk hV; clear hV hb)
        | ((with_reducible refine gate_dst (N := 9) rfl ?_); refine box_event ?hg (N := 9) ?hd (cs := As.Z) (t := 25) ?hr ?_; (case hd => rfl); (case hg => rfl); (case hr => first | (go_simp; done) | (go_simp; rfl)); intro g9 hg w5 hbox hb; have GX := Aside0.mk (Nat.le_of_eq hg.symm); have HX := Aside0.mk hb; have BKg9 := Aside0.mk hbox; clear hg hbox hb)
        | ((with_reducible refine gate_store rfl ?_); refine As.store_row rfl 25 _ _ rfl g9 #[.int .i64 y.f0, .int .i64 y.f1, .int .i64 y.f2, .int .i64 y.f3, .int .i64 y.f4, .int .i64 y.f5, .int .i64 y.f6, .int .i64 y.f7, .slice B8 y.f8.length d8, .slice B9 y.f9.length d9] rfl rfl 25 _ BKg9.out (by rw [As.V_size HV9.out]; exact As.size) (by rw [As.V_size HV9.out]; rfl) (As.V_one HV9.out) ?_; intro w6 hgb hgr; have hb := HX.out.grown hgr HX.out.size (fun k hk => by cases hk; exact GX.out); have n0_ := Aside0.mk (below_step HB.out hb); have n1_ := Aside0.mk (As.V_below HV9.out hb); clear HB HV9; have HB := n0_; have HV9 := n1_; clear n0_ n1_; clear BKg9 GX HX hb hgr; have BKg9 := Aside0.mk hgb; clear hgb; skip)
        | ((with_reducible refine gate_dst (N := 66) rfl ?_); refine wpList_load_row rfl 25 _ rfl g9 rfl 25 _ (0, 0) _ BKg9.out hu rfl (by rw [As.V_size HV9.out]; exact As.size) ?_)
        | (go_at_call 12; (with_reducible refine (As.prints HV9.out HFy.out H16y.out hby.out).mono ?_); rintro r w3 ⟨vx, rfl, ho, hb⟩; rw [HPY.out] at ho; have HQ := Aside0.mk (Kd.R_lower ho HB.out.size); clear ho; have n0_ := Aside0.mk (below_step HB.out hb); have n1_ := Aside0.mk (As.V_below HV9.out hb); have n2_ := Aside0.mk (blk_below BKg9.out hb); clear HB HV9 BKg9; have HB := n0_; have HV9 := n1_; have BKg9 := n2_; clear n0_ n1_ n2_; clear hb; obtain ⟨Ay, cy, ey⟩ := Kd.R_slice HQ.out; subst ey)
        | ((with_reducible refine gate_dst (N := 73) rfl ?_); refine gate_guard (by rfl) ?_; dsimp only; refine wpList_load_row rfl 25 _ rfl g9 rfl 25 _ (0, 0) _ BKg9.out hu rfl (by rw [As.V_size HV9.out]; exact As.size) ?_)
        | (go_at_call 14; (with_reducible refine (As.rights HV9.out HFy.out hby.out).mono ?_); rintro r w13 ⟨rfl, hb⟩; have n0_ := Aside0.mk (below_step HB.out hb); have n1_ := Aside0.mk (As.V_below HV9.out hb); have n2_ := Aside0.mk (blk_below BKg9.out hb); have n3_ := Aside0.mk (Kd.R_below HQ.out hb); clear HB HV9 BKg9 HQ; have HB := n0_; have HV9 := n1_; have BKg9 := n2_; have HQ := n3_; clear n0_ n1_ n2_ n3_; clear hb))
      refine start_ (n := 11) (S := fun w' => Below w13.heap.size w13 w') (ds := []) (bt 11 0) (by kernel_rfl) rfl (by kernel_rfl) (below_drew1 (Below.refl _ _)) (fun hHeld => ?_)
      refine pure_ (i := 0) (N := some 84) (v := ?_) (a' := ?_) (bt 11 1) rfl rfl (by kernel_rfl) (fun _ _ _ h => h) (Or.inl ⟨by rfl, ?_⟩) ?_ ?_
      rotate_left
      · intro w'
        go_simp
        first | with_reducible rfl | (simp [Instr.field, go_sem]; rfl)
      rotate_left
      · simp only [Act.put, List.setIfInBounds_toArray, List.set_cons_zero, List.set_cons_succ]
        rfl
      refine take_ (i := 1) (N := some 85) (v := ?_) (a' := ?_) (bt 11 3) rfl rfl (by kernel_rfl) (fun _ _ _ h => h) (Or.inl ⟨by rfl, ?_⟩) hHeld ?_ ?_
      rotate_left
      · intro w' hS
        have cg9 := fun i => blk_cell (blk_below BKg9.out hS) i
        go_simp
        first | with_reducible rfl | (simp [Instr.field, go_sem]; rfl)
      rotate_left
      · simp only [Act.put, List.setIfInBounds_toArray, List.set_cons_zero, List.set_cons_succ]
        rfl
      refine pure_ (i := 2) (N := some 86) (v := ?_) (a' := ?_) (bt 11 7) rfl rfl (by kernel_rfl) (fun _ _ _ h => h) (Or.inl ⟨by rfl, ?_⟩) ?_ ?_
      rotate_left
      · intro w'
        go_simp
        first | with_reducible rfl | (simp [Instr.field, go_sem]; rfl)
      rotate_left
      · simp only [Act.put, List.setIfInBounds_toArray, List.set_cons_zero, List.set_cons_succ]
        rfl
      refine pure_ (i := 3) (N := some 87) (v := ?_) (a' := ?_) (bt 11 15) rfl rfl (by kernel_rfl) (fun _ _ _ h => h) (Or.inl ⟨by rfl, ?_⟩) ?_ ?_
      rotate_left
      · intro w'
        go_simp
        first | with_reducible rfl | (simp [Instr.field, go_sem]; rfl)
      rotate_left
      · simp only [Act.put, List.setIfInBounds_toArray, List.set_cons_zero, List.set_cons_succ]
        rfl
      refine pure_ (i := 4) (N := some 88) (v := undef) (a' := ?_) (bt 11 31) rfl rfl (by kernel_rfl) (fun _ _ _ h => h) (Or.inr ⟨by rfl, rfl⟩) ?_ ?_
      rotate_left
      · simp only [Act.put, List.setIfInBounds_toArray, List.set_cons_zero, List.set_cons_succ]
        rfl
      refine pure_ (i := 5) (N := some 89) (v := undef) (a' := ?_) (bt 11 63) rfl rfl (by kernel_rfl) (fun _ _ _ h => h) (Or.inr ⟨by rfl, rfl⟩) ?_ ?_
      rotate_left
      · simp only [Act.put, List.setIfInBounds_toArray, List.set_cons_zero, List.set_cons_succ]
        rfl
      refine pure_ (i := 6) (N := some 90) (v := undef) (a' := ?_) (bt 11 127) rfl rfl (by kernel_rfl) (fun _ _ _ h => h) (Or.inr ⟨by rfl, rfl⟩) ?_ ?_
      rotate_left
      · simp only [Act.put, List.setIfInBounds_toArray, List.set_cons_zero, List.set_cons_succ]
        rfl
      refine pure_ (i := 7) (N := some 91) (v := undef) (a' := ?_) (bt 11 255) rfl rfl (by kernel_rfl) (fun _ _ _ h => h) (Or.inr ⟨by rfl, rfl⟩) ?_ ?_
      rotate_left
      · simp only [Act.put, List.setIfInBounds_toArray, List.set_cons_zero, List.set_cons_succ]
        rfl
      refine pure_ (i := 8) (N := some 92) (v := undef) (a' := ?_) (bt 11 511) rfl rfl (by kernel_rfl) (fun _ _ _ h => h) (Or.inr ⟨by rfl, rfl⟩) ?_ ?_
      rotate_left
      · simp only [Act.put, List.setIfInBounds_toArray, List.set_cons_zero, List.set_cons_succ]
        rfl
      refine pure_ (i := 9) (N := some 93) (v := undef) (a' := ?_) (bt 11 1023) rfl rfl (by kernel_rfl) (fun _ _ _ h => h) (Or.inr ⟨by rfl, rfl⟩) ?_ ?_
      rotate_left
      · simp only [Act.put, List.setIfInBounds_toArray, List.set_cons_zero, List.set_cons_succ]
        rfl
      refine pure_ (i := 10) (N := some 94) (v := ?_) (a' := ?_) (bt 11 2047) rfl rfl (by kernel_rfl) (fun _ _ _ h => h) (Or.inl ⟨by rfl, ?_⟩) ?_ ?_
      rotate_left
      · intro w'
        go_simp
        first | with_reducible rfl | (simp [Instr.field, go_sem]; rfl)
      rotate_left
      · simp only [Act.put, List.setIfInBounds_toArray, List.set_cons_zero, List.set_cons_succ]
        rfl
      refine done_ (by kernel_rfl) ?_
      have n0_ := Aside0.mk (below_step HB.out hHeld)
      have n1_ := Aside0.mk (Kd.R_below HQ.out hHeld)
      clear HB HQ BKg9 HV9 hHeld
      have HB := n0_
      have HQ := n1_
      clear n0_ n1_
      go_wp2_with (first
        | (go_at_call 18; (with_reducible refine (As.bytesE (Kd.R_reads' HQ.out).2.2 (Kd.R_reads' HQ.out).2.1 (Kd.C_below HR.out HB.out) HC.out (by have := HSLy.out; omega) HEQ.out).mono ?_); rintro r w14 ⟨rfl, hb⟩; clear HQ; have n0_ := Aside0.mk (below_step HB.out hb); clear HB; have HB := n0_; clear n0_; clear hb)
        | (go_at_call 11; (with_reducible refine (As.sure).mono ?_); rintro r w9 ⟨rfl, hb⟩; have n0_ := Aside0.mk (below_step HB.out hb); clear HB; have HB := n0_; clear n0_; skip; clear hb))
      go_ret
      exact ⟨rfl, HB.out⟩
    have hfb : (y.f0 == 15) = true := by simpa using hf
    obtain ⟨h6, hi2, hti⟩ := As.back15 H8.out HE.out hf
    rw [HSY.out] at hti
    have hC6 := Kd.C_drop (m := 6) HR.out (by omega) HC.out
    rw [if_neg (show ¬ c1 = 6 by omega)] at hC6
    have HC6 := Aside0.mk hC6
    have HL7 := Aside0.mk (show l.length - 6 = (l.drop 6).length by rw [List.length_drop])
    obtain ⟨tb, ht1, ht2⟩ := tidy_eq (b := l.drop 6) (fun x hx => H8.out x (List.mem_of_mem_drop hx)) hi2 (by have := HL.out; have := HL7.out; omega)
    have HT := Aside0.mk ht1
    clear hC6 ht1 hf
    cases tb with
    | true =>
      have HEQ := Aside0.mk (show decide (sy = l) = true from decide_eq_true (hti.2 (ht2.1 rfl)))
      clear hti ht2 hi2
      go_wp2_with (first
        | (go_at_call 21; (with_reducible refine (As.parses (Kd.C_below HR.out HB.out) HC.out H8.out HL.out HE.out).mono ?_); rintro r w8 ⟨cs9, rfl, hV, hb⟩; obtain ⟨B8, d8, B9, d9, rfl, -, -, -, -⟩ := As.open hV; clear BKg2; have n0_ := Aside0.mk (below_step HB.out hb); clear HB; have HB := n0_; clear n0_; have HV9 := Aside0.mk hV; clear hV hb)
        | ((with_reducible refine gate_dst (N := 9) rfl ?_); refine box_event ?hg (N := 9) ?hd (cs := As.Z) (t := 25) ?hr ?_; (case hd => rfl); (case hg => rfl); (case hr => first | (go_simp; done) | (go_simp; rfl)); intro g9 hg w5 hbox hb; have GX := Aside0.mk (Nat.le_of_eq hg.symm); have HX := Aside0.mk hb; have BKg9 := Aside0.mk hbox; clear hg hbox hb)
        | ((with_reducible refine gate_store rfl ?_); refine As.store_row rfl 25 _ _ rfl g9 #[.int .i64 y.f0, .int .i64 y.f1, .int .i64 y.f2, .int .i64 y.f3, .int .i64 y.f4, .int .i64 y.f5, .int .i64 y.f6, .int .i64 y.f7, .slice B8 y.f8.length d8, .slice B9 y.f9.length d9] rfl rfl 25 _ BKg9.out (by rw [As.V_size HV9.out]; exact As.size) (by rw [As.V_size HV9.out]; rfl) (As.V_one HV9.out) ?_; intro w6 hgb hgr; have hb := HX.out.grown hgr HX.out.size (fun k hk => by cases hk; exact GX.out); have n0_ := Aside0.mk (below_step HB.out hb); have n1_ := Aside0.mk (As.V_below HV9.out hb); clear HB HV9; have HB := n0_; have HV9 := n1_; clear n0_ n1_; clear BKg9 GX HX hb hgr; have BKg9 := Aside0.mk hgb; clear hgb; skip)
        | ((with_reducible refine gate_dst (N := 66) rfl ?_); refine wpList_load_row rfl 25 _ rfl g9 rfl 25 _ (0, 0) _ BKg9.out hu rfl (by rw [As.V_size HV9.out]; exact As.size) ?_)
        | (go_at_call 12; (with_reducible refine (As.prints HV9.out HFy.out H16y.out hby.out).mono ?_); rintro r w3 ⟨vx, rfl, ho, hb⟩; rw [HPY.out] at ho; have HQ := Aside0.mk (Kd.R_lower ho HB.out.size); clear ho; have n0_ := Aside0.mk (below_step HB.out hb); have n1_ := Aside0.mk (As.V_below HV9.out hb); have n2_ := Aside0.mk (blk_below BKg9.out hb); clear HB HV9 BKg9; have HB := n0_; have HV9 := n1_; have BKg9 := n2_; clear n0_ n1_ n2_; clear hb; obtain ⟨Ay, cy, ey⟩ := Kd.R_slice HQ.out; subst ey)
        | ((with_reducible refine gate_dst (N := 73) rfl ?_); refine gate_guard (by rfl) ?_; dsimp only; refine wpList_load_row rfl 25 _ rfl g9 rfl 25 _ (0, 0) _ BKg9.out hu rfl (by rw [As.V_size HV9.out]; exact As.size) ?_)
        | (go_at_call 14; (with_reducible refine (As.rights HV9.out HFy.out hby.out).mono ?_); rintro r w13 ⟨rfl, hb⟩; have n0_ := Aside0.mk (below_step HB.out hb); have n1_ := Aside0.mk (As.V_below HV9.out hb); have n2_ := Aside0.mk (blk_below BKg9.out hb); have n3_ := Aside0.mk (Kd.R_below HQ.out hb); clear HB HV9 BKg9 HQ; have HB := n0_; have HV9 := n1_; have BKg9 := n2_; have HQ := n3_; clear n0_ n1_ n2_ n3_; clear hb))
      refine start_ (n := 11) (S := fun w' => Below w13.heap.size w13 w') (ds := []) (bt 11 0) (by kernel_rfl) rfl (by kernel_rfl) (below_drew1 (Below.refl _ _)) (fun hHeld => ?_)
      refine pure_ (i := 0) (N := some 84) (v := ?_) (a' := ?_) (bt 11 1) rfl rfl (by kernel_rfl) (fun _ _ _ h => h) (Or.inl ⟨by rfl, ?_⟩) ?_ ?_
      rotate_left
      · intro w'
        go_simp
        first | with_reducible rfl | (simp [Instr.field, go_sem]; rfl)
      rotate_left
      · simp only [Act.put, List.setIfInBounds_toArray, List.set_cons_zero, List.set_cons_succ]
        rfl
      refine take_ (i := 1) (N := some 85) (v := ?_) (a' := ?_) (bt 11 3) rfl rfl (by kernel_rfl) (fun _ _ _ h => h) (Or.inl ⟨by rfl, ?_⟩) hHeld ?_ ?_
      rotate_left
      · intro w' hS
        have cg9 := fun i => blk_cell (blk_below BKg9.out hS) i
        go_simp
        first | with_reducible rfl | (simp [Instr.field, go_sem]; rfl)
      rotate_left
      · simp only [Act.put, List.setIfInBounds_toArray, List.set_cons_zero, List.set_cons_succ]
        rfl
      refine pure_ (i := 2) (N := some 86) (v := ?_) (a' := ?_) (bt 11 7) rfl rfl (by kernel_rfl) (fun _ _ _ h => h) (Or.inl ⟨by rfl, ?_⟩) ?_ ?_
      rotate_left
      · intro w'
        go_simp
        first | with_reducible rfl | (simp [Instr.field, go_sem]; rfl)
      rotate_left
      · simp only [Act.put, List.setIfInBounds_toArray, List.set_cons_zero, List.set_cons_succ]
        rfl
      refine pure_ (i := 3) (N := some 87) (v := ?_) (a' := ?_) (bt 11 15) rfl rfl (by kernel_rfl) (fun _ _ _ h => h) (Or.inl ⟨by rfl, ?_⟩) ?_ ?_
      rotate_left
      · intro w'
        go_simp
        first | with_reducible rfl | (simp [Instr.field, go_sem]; rfl)
      rotate_left
      · simp only [Act.put, List.setIfInBounds_toArray, List.set_cons_zero, List.set_cons_succ]
        rfl
      refine pure_ (i := 4) (N := some 88) (v := ?_) (a' := ?_) (bt 11 31) rfl rfl (by kernel_rfl) (fun _ _ _ h => h) (Or.inl ⟨by rfl, ?_⟩) ?_ ?_
      rotate_left
      · intro w'
        go_simp
        first | with_reducible rfl | (simp [Instr.field, go_sem]; rfl)
      rotate_left
      · simp only [Act.put, List.setIfInBounds_toArray, List.set_cons_zero, List.set_cons_succ]
        rfl
      refine take_ (i := 5) (N := some 89) (v := ?_) (a' := ?_) (bt 11 63) rfl rfl (by kernel_rfl) (fun _ _ _ h => h) (Or.inl ⟨by rfl, ?_⟩) hHeld ?_ ?_
      rotate_left
      · intro w' hS
        go_simp
        rw [if_pos (show (6 : Int) ≤ (l.length : Int) by omega), if_neg (show ¬ c1 = 6 by omega)]
      rotate_left
      · simp only [Act.put, List.setIfInBounds_toArray, List.set_cons_zero, List.set_cons_succ]
        rfl
      refine pure_ (i := 6) (N := some 90) (v := ?_) (a' := ?_) (bt 11 127) rfl rfl (by kernel_rfl) (fun _ _ _ h => h) (Or.inl ⟨by rfl, ?_⟩) ?_ ?_
      rotate_left
      · intro w'
        go_simp
        first | with_reducible rfl | (simp [Instr.field, go_sem]; rfl)
      rotate_left
      · simp only [Act.put, List.setIfInBounds_toArray, List.set_cons_zero, List.set_cons_succ]
        rfl
      refine take_ (i := 7) (N := some 91) (v := ?_) (a' := ?_) (bt 11 255) rfl rfl (by kernel_rfl) (fun _ _ _ h => h) (Or.inl ⟨by rfl, ?_⟩) hHeld ?_ ?_
      rotate_left
      · intro w' hS
        have cg9 := fun i => blk_cell (blk_below BKg9.out hS) i
        go_simp
        first | with_reducible rfl | (simp [Instr.field, go_sem]; rfl)
      rotate_left
      · simp only [Act.put, List.setIfInBounds_toArray, List.set_cons_zero, List.set_cons_succ]
        rfl
      refine one_ (i := 8) (N := some 92) (bt 11 511) rfl rfl (by kernel_rfl) (by decide) (fun K hK => ?_)
      refine goes_ Try.func23 (by kernel_rfl) rfl #[.slice (some (ad.add 6)) (l.length - 6) (c1 - 6), .int .i64 y.f2] (by rfl) rfl rfl (by (try simp only [List.map_toArray, List.map_cons, List.map_nil]); first | done | rfl) ?_
      refine (As.tidys HL7.out (Kd.C_below HC6.out (below_step HB.out hHeld)) (by have := HC.out; have := HL7.out; omega) HT.out).mono ?_
      rintro e v8 ⟨rfl, hb⟩
      refine ⟨_, rfl, ?_⟩
      refine hK.out _ _ (below_step hHeld hb) (fun hHeld => ?_)
      clear hK K hb
      refine norm_ (a' := ?_) ?_ ?_
      rotate_left
      · show Act.put _ (some 92) _ = _
        simp only [Act.put, List.setIfInBounds_toArray, List.set_cons_zero, List.set_cons_succ]
        rfl
      refine pure_ (i := 9) (N := some 93) (v := ?_) (a' := ?_) (bt 11 1023) rfl rfl (by kernel_rfl) (fun _ _ _ h => h) (Or.inl ⟨by rfl, ?_⟩) ?_ ?_
      rotate_left
      · intro w'
        go_simp
        first | with_reducible rfl | (simp [Instr.field, go_sem]; rfl)
      rotate_left
      · simp only [Act.put, List.setIfInBounds_toArray, List.set_cons_zero, List.set_cons_succ]
        rfl
      refine pure_ (i := 10) (N := some 94) (v := ?_) (a' := ?_) (bt 11 2047) rfl rfl (by kernel_rfl) (fun _ _ _ h => h) (Or.inl ⟨by rfl, ?_⟩) ?_ ?_
      rotate_left
      · intro w'
        go_simp
        first | with_reducible rfl | (simp [Instr.field, go_sem]; rfl)
      rotate_left
      · simp only [Act.put, List.setIfInBounds_toArray, List.set_cons_zero, List.set_cons_succ]
        rfl
      refine done_ (by kernel_rfl) ?_
      have n0_ := Aside0.mk (below_step HB.out hHeld)
      have n1_ := Aside0.mk (Kd.R_below HQ.out hHeld)
      clear HB HQ BKg9 HV9 hHeld
      have HB := n0_
      have HQ := n1_
      clear n0_ n1_
      go_wp2_with (first
        | (go_at_call 18; (with_reducible refine (As.bytesE (Kd.R_reads' HQ.out).2.2 (Kd.R_reads' HQ.out).2.1 (Kd.C_below HR.out HB.out) HC.out (by have := HSLy.out; omega) HEQ.out).mono ?_); rintro r w14 ⟨rfl, hb⟩; clear HQ; have n0_ := Aside0.mk (below_step HB.out hb); clear HB; have HB := n0_; clear n0_; clear hb)
        | (go_at_call 11; (with_reducible refine (As.sure).mono ?_); rintro r w9 ⟨rfl, hb⟩; have n0_ := Aside0.mk (below_step HB.out hb); clear HB; have HB := n0_; clear n0_; skip; clear hb))
      go_ret
      exact ⟨rfl, HB.out⟩
    | false =>
      have HEQ := Aside0.mk (show decide (sy = l) = false from decide_eq_false (fun h => by cases ht2.2 (hti.1 h)))
      have HTK := Aside0.mk (show decide (sy.take (sy.length - 1) = l.take (sy.length - 1)) = true from decide_eq_true (As.near_take HNY.out HLY.out))
      clear hti ht2 hi2
      go_wp2_with (first
        | (go_at_call 21; (with_reducible refine (As.parses (Kd.C_below HR.out HB.out) HC.out H8.out HL.out HE.out).mono ?_); rintro r w8 ⟨cs9, rfl, hV, hb⟩; obtain ⟨B8, d8, B9, d9, rfl, -, -, -, -⟩ := As.open hV; clear BKg2; have n0_ := Aside0.mk (below_step HB.out hb); clear HB; have HB := n0_; clear n0_; have HV9 := Aside0.mk hV; clear hV hb)
        | ((with_reducible refine gate_dst (N := 9) rfl ?_); refine box_event ?hg (N := 9) ?hd (cs := As.Z) (t := 25) ?hr ?_; (case hd => rfl); (case hg => rfl); (case hr => first | (go_simp; done) | (go_simp; rfl)); intro g9 hg w5 hbox hb; have GX := Aside0.mk (Nat.le_of_eq hg.symm); have HX := Aside0.mk hb; have BKg9 := Aside0.mk hbox; clear hg hbox hb)
        | ((with_reducible refine gate_store rfl ?_); refine As.store_row rfl 25 _ _ rfl g9 #[.int .i64 y.f0, .int .i64 y.f1, .int .i64 y.f2, .int .i64 y.f3, .int .i64 y.f4, .int .i64 y.f5, .int .i64 y.f6, .int .i64 y.f7, .slice B8 y.f8.length d8, .slice B9 y.f9.length d9] rfl rfl 25 _ BKg9.out (by rw [As.V_size HV9.out]; exact As.size) (by rw [As.V_size HV9.out]; rfl) (As.V_one HV9.out) ?_; intro w6 hgb hgr; have hb := HX.out.grown hgr HX.out.size (fun k hk => by cases hk; exact GX.out); have n0_ := Aside0.mk (below_step HB.out hb); have n1_ := Aside0.mk (As.V_below HV9.out hb); clear HB HV9; have HB := n0_; have HV9 := n1_; clear n0_ n1_; clear BKg9 GX HX hb hgr; have BKg9 := Aside0.mk hgb; clear hgb; skip)
        | ((with_reducible refine gate_dst (N := 66) rfl ?_); refine wpList_load_row rfl 25 _ rfl g9 rfl 25 _ (0, 0) _ BKg9.out hu rfl (by rw [As.V_size HV9.out]; exact As.size) ?_)
        | (go_at_call 12; (with_reducible refine (As.prints HV9.out HFy.out H16y.out hby.out).mono ?_); rintro r w3 ⟨vx, rfl, ho, hb⟩; rw [HPY.out] at ho; have HQ := Aside0.mk (Kd.R_lower ho HB.out.size); clear ho; have n0_ := Aside0.mk (below_step HB.out hb); have n1_ := Aside0.mk (As.V_below HV9.out hb); have n2_ := Aside0.mk (blk_below BKg9.out hb); clear HB HV9 BKg9; have HB := n0_; have HV9 := n1_; have BKg9 := n2_; clear n0_ n1_ n2_; clear hb; obtain ⟨Ay, cy, ey⟩ := Kd.R_slice HQ.out; subst ey)
        | ((with_reducible refine gate_dst (N := 73) rfl ?_); refine gate_guard (by rfl) ?_; dsimp only; refine wpList_load_row rfl 25 _ rfl g9 rfl 25 _ (0, 0) _ BKg9.out hu rfl (by rw [As.V_size HV9.out]; exact As.size) ?_)
        | (go_at_call 14; (with_reducible refine (As.rights HV9.out HFy.out hby.out).mono ?_); rintro r w13 ⟨rfl, hb⟩; have n0_ := Aside0.mk (below_step HB.out hb); have n1_ := Aside0.mk (As.V_below HV9.out hb); have n2_ := Aside0.mk (blk_below BKg9.out hb); have n3_ := Aside0.mk (Kd.R_below HQ.out hb); clear HB HV9 BKg9 HQ; have HB := n0_; have HV9 := n1_; have BKg9 := n2_; have HQ := n3_; clear n0_ n1_ n2_ n3_; clear hb))
      refine start_ (n := 11) (S := fun w' => Below w13.heap.size w13 w') (ds := []) (bt 11 0) (by kernel_rfl) rfl (by kernel_rfl) (below_drew1 (Below.refl _ _)) (fun hHeld => ?_)
      refine pure_ (i := 0) (N := some 84) (v := ?_) (a' := ?_) (bt 11 1) rfl rfl (by kernel_rfl) (fun _ _ _ h => h) (Or.inl ⟨by rfl, ?_⟩) ?_ ?_
      rotate_left
      · intro w'
        go_simp
        first | with_reducible rfl | (simp [Instr.field, go_sem]; rfl)
      rotate_left
      · simp only [Act.put, List.setIfInBounds_toArray, List.set_cons_zero, List.set_cons_succ]
        rfl
      refine take_ (i := 1) (N := some 85) (v := ?_) (a' := ?_) (bt 11 3) rfl rfl (by kernel_rfl) (fun _ _ _ h => h) (Or.inl ⟨by rfl, ?_⟩) hHeld ?_ ?_
      rotate_left
      · intro w' hS
        have cg9 := fun i => blk_cell (blk_below BKg9.out hS) i
        go_simp
        first | with_reducible rfl | (simp [Instr.field, go_sem]; rfl)
      rotate_left
      · simp only [Act.put, List.setIfInBounds_toArray, List.set_cons_zero, List.set_cons_succ]
        rfl
      refine pure_ (i := 2) (N := some 86) (v := ?_) (a' := ?_) (bt 11 7) rfl rfl (by kernel_rfl) (fun _ _ _ h => h) (Or.inl ⟨by rfl, ?_⟩) ?_ ?_
      rotate_left
      · intro w'
        go_simp
        first | with_reducible rfl | (simp [Instr.field, go_sem]; rfl)
      rotate_left
      · simp only [Act.put, List.setIfInBounds_toArray, List.set_cons_zero, List.set_cons_succ]
        rfl
      refine pure_ (i := 3) (N := some 87) (v := ?_) (a' := ?_) (bt 11 15) rfl rfl (by kernel_rfl) (fun _ _ _ h => h) (Or.inl ⟨by rfl, ?_⟩) ?_ ?_
      rotate_left
      · intro w'
        go_simp
        first | with_reducible rfl | (simp [Instr.field, go_sem]; rfl)
      rotate_left
      · simp only [Act.put, List.setIfInBounds_toArray, List.set_cons_zero, List.set_cons_succ]
        rfl
      refine pure_ (i := 4) (N := some 88) (v := ?_) (a' := ?_) (bt 11 31) rfl rfl (by kernel_rfl) (fun _ _ _ h => h) (Or.inl ⟨by rfl, ?_⟩) ?_ ?_
      rotate_left
      · intro w'
        go_simp
        first | with_reducible rfl | (simp [Instr.field, go_sem]; rfl)
      rotate_left
      · simp only [Act.put, List.setIfInBounds_toArray, List.set_cons_zero, List.set_cons_succ]
        rfl
      refine take_ (i := 5) (N := some 89) (v := ?_) (a' := ?_) (bt 11 63) rfl rfl (by kernel_rfl) (fun _ _ _ h => h) (Or.inl ⟨by rfl, ?_⟩) hHeld ?_ ?_
      rotate_left
      · intro w' hS
        go_simp
        rw [if_pos (show (6 : Int) ≤ (l.length : Int) by omega), if_neg (show ¬ c1 = 6 by omega)]
      rotate_left
      · simp only [Act.put, List.setIfInBounds_toArray, List.set_cons_zero, List.set_cons_succ]
        rfl
      refine pure_ (i := 6) (N := some 90) (v := ?_) (a' := ?_) (bt 11 127) rfl rfl (by kernel_rfl) (fun _ _ _ h => h) (Or.inl ⟨by rfl, ?_⟩) ?_ ?_
      rotate_left
      · intro w'
        go_simp
        first | with_reducible rfl | (simp [Instr.field, go_sem]; rfl)
      rotate_left
      · simp only [Act.put, List.setIfInBounds_toArray, List.set_cons_zero, List.set_cons_succ]
        rfl
      refine take_ (i := 7) (N := some 91) (v := ?_) (a' := ?_) (bt 11 255) rfl rfl (by kernel_rfl) (fun _ _ _ h => h) (Or.inl ⟨by rfl, ?_⟩) hHeld ?_ ?_
      rotate_left
      · intro w' hS
        have cg9 := fun i => blk_cell (blk_below BKg9.out hS) i
        go_simp
        first | with_reducible rfl | (simp [Instr.field, go_sem]; rfl)
      rotate_left
      · simp only [Act.put, List.setIfInBounds_toArray, List.set_cons_zero, List.set_cons_succ]
        rfl
      refine one_ (i := 8) (N := some 92) (bt 11 511) rfl rfl (by kernel_rfl) (by decide) (fun K hK => ?_)
      refine goes_ Try.func23 (by kernel_rfl) rfl #[.slice (some (ad.add 6)) (l.length - 6) (c1 - 6), .int .i64 y.f2] (by rfl) rfl rfl (by (try simp only [List.map_toArray, List.map_cons, List.map_nil]); first | done | rfl) ?_
      refine (As.tidys HL7.out (Kd.C_below HC6.out (below_step HB.out hHeld)) (by have := HC.out; have := HL7.out; omega) HT.out).mono ?_
      rintro e v8 ⟨rfl, hb⟩
      refine ⟨_, rfl, ?_⟩
      refine hK.out _ _ (below_step hHeld hb) (fun hHeld => ?_)
      clear hK K hb
      refine norm_ (a' := ?_) ?_ ?_
      rotate_left
      · show Act.put _ (some 92) _ = _
        simp only [Act.put, List.setIfInBounds_toArray, List.set_cons_zero, List.set_cons_succ]
        rfl
      refine pure_ (i := 9) (N := some 93) (v := ?_) (a' := ?_) (bt 11 1023) rfl rfl (by kernel_rfl) (fun _ _ _ h => h) (Or.inl ⟨by rfl, ?_⟩) ?_ ?_
      rotate_left
      · intro w'
        go_simp
        first | with_reducible rfl | (simp [Instr.field, go_sem]; rfl)
      rotate_left
      · simp only [Act.put, List.setIfInBounds_toArray, List.set_cons_zero, List.set_cons_succ]
        rfl
      refine pure_ (i := 10) (N := some 94) (v := ?_) (a' := ?_) (bt 11 2047) rfl rfl (by kernel_rfl) (fun _ _ _ h => h) (Or.inl ⟨by rfl, ?_⟩) ?_ ?_
      rotate_left
      · intro w'
        go_simp
        first | with_reducible rfl | (simp [Instr.field, go_sem]; rfl)
      rotate_left
      · simp only [Act.put, List.setIfInBounds_toArray, List.set_cons_zero, List.set_cons_succ]
        rfl
      refine done_ (by kernel_rfl) ?_
      have n0_ := Aside0.mk (below_step HB.out hHeld)
      have n1_ := Aside0.mk (Kd.R_below HQ.out hHeld)
      clear HB HQ BKg9 HV9 hHeld
      have HB := n0_
      have HQ := n1_
      clear n0_ n1_
      go_wp2
      refine start_ (n := 21) (S := fun w' => Below v8.heap.size v8 w') (ds := []) (bt 21 0) (by kernel_rfl) rfl (by kernel_rfl) (below_drew1 (Below.refl _ _)) (fun hHeld => ?_)
      refine pure_ (i := 0) (N := some 95) (v := ?_) (a' := ?_) (bt 21 1) rfl rfl (by kernel_rfl) (fun _ _ _ h => h) (Or.inl ⟨by rfl, ?_⟩) ?_ ?_
      rotate_left
      · intro w'
        go_simp
        first | with_reducible rfl | (simp [Instr.field, go_sem]; rfl)
      rotate_left
      · simp only [Act.put, List.setIfInBounds_toArray, List.set_cons_zero, List.set_cons_succ]
        rfl
      refine pure_ (i := 1) (N := some 96) (v := ?_) (a' := ?_) (bt 21 3) rfl rfl (by kernel_rfl) (fun _ _ _ h => h) (Or.inl ⟨by rfl, ?_⟩) ?_ ?_
      rotate_left
      · intro w'
        go_simp
        first | with_reducible rfl | (simp [Instr.field, go_sem]; rfl)
      rotate_left
      · simp only [Act.put, List.setIfInBounds_toArray, List.set_cons_zero, List.set_cons_succ]
        rfl
      refine one_ (i := 2) (N := some 97) (bt 21 7) rfl rfl (by kernel_rfl) (by decide) (fun K hK => ?_)
      refine goes_ Try.func18 (by kernel_rfl) rfl #[.slice Ay sy.length cy, .slice (some ad) l.length c1] (by rfl) rfl rfl (by (try simp only [List.map_toArray, List.map_cons, List.map_nil]); first | done | rfl) ?_
      refine (As.bytesE (Kd.C_below (Kd.R_reads' HQ.out).2.2 hHeld) (Kd.R_reads' HQ.out).2.1 (Kd.C_below HR.out (below_step HB.out hHeld)) HC.out (by have := HSLy.out; omega) HEQ.out).mono ?_
      rintro e v2 ⟨rfl, hb⟩
      refine ⟨_, rfl, ?_⟩
      refine hK.out _ _ (below_step hHeld hb) (fun hHeld => ?_)
      clear hK K hb
      refine norm_ (a' := ?_) ?_ ?_
      rotate_left
      · show Act.put _ (some 97) _ = _
        simp only [Act.put, List.setIfInBounds_toArray, List.set_cons_zero, List.set_cons_succ]
        rfl
      refine pure_ (i := 3) (N := some 98) (v := ?_) (a' := ?_) (bt 21 15) rfl rfl (by kernel_rfl) (fun _ _ _ h => h) (Or.inl ⟨by rfl, ?_⟩) ?_ ?_
      rotate_left
      · intro w'
        go_simp
        first | with_reducible rfl | (simp [Instr.field, go_sem]; rfl)
      rotate_left
      · simp only [Act.put, List.setIfInBounds_toArray, List.set_cons_zero, List.set_cons_succ]
        rfl
      refine pure_ (i := 4) (N := some 99) (v := ?_) (a' := ?_) (bt 21 31) rfl rfl (by kernel_rfl) (fun _ _ _ h => h) (Or.inl ⟨by rfl, ?_⟩) ?_ ?_
      rotate_left
      · intro w'
        go_simp
        first | with_reducible rfl | (simp [Instr.field, go_sem]; rfl)
      rotate_left
      · simp only [Act.put, List.setIfInBounds_toArray, List.set_cons_zero, List.set_cons_succ]
        rfl
      refine pure_ (i := 5) (N := some 100) (v := ?_) (a' := ?_) (bt 21 63) rfl rfl (by kernel_rfl) (fun _ _ _ h => h) (Or.inl ⟨by rfl, ?_⟩) ?_ ?_
      rotate_left
      · intro w'
        go_simp
        first | with_reducible rfl | (simp [Instr.field, go_sem]; rfl)
      rotate_left
      · simp only [Act.put, List.setIfInBounds_toArray, List.set_cons_zero, List.set_cons_succ]
        rfl
      refine pure_ (i := 6) (N := some 101) (v := ?_) (a' := ?_) (bt 21 127) rfl rfl (by kernel_rfl) (fun _ _ _ h => h) (Or.inl ⟨by rfl, ?_⟩) ?_ ?_
      rotate_left
      · intro w'
        go_simp
        first | with_reducible rfl | (simp [Instr.field, go_sem]; rfl)
      rotate_left
      · simp only [Act.put, List.setIfInBounds_toArray, List.set_cons_zero, List.set_cons_succ]
        rfl
      refine pure_ (i := 7) (N := some 102) (v := ?_) (a' := ?_) (bt 21 255) rfl rfl (by kernel_rfl) (fun _ _ _ h => h) (Or.inl ⟨by rfl, ?_⟩) ?_ ?_
      rotate_left
      · intro w'
        go_simp
        first | with_reducible rfl | (simp [Instr.field, go_sem]; rfl)
      rotate_left
      · simp only [Act.put, List.setIfInBounds_toArray, List.set_cons_zero, List.set_cons_succ]
        rfl
      refine pure_ (i := 8) (N := some 103) (v := ?_) (a' := ?_) (bt 21 511) rfl rfl (by kernel_rfl) (fun _ _ _ h => h) (Or.inl ⟨by rfl, ?_⟩) ?_ ?_
      rotate_left
      · intro w'
        go_simp
        first | with_reducible rfl | (simp [Instr.field, go_sem]; rfl)
      rotate_left
      · simp only [Act.put, List.setIfInBounds_toArray, List.set_cons_zero, List.set_cons_succ]
        rfl
      refine take_ (i := 9) (N := some 104) (v := ?_) (a' := ?_) (bt 21 1023) rfl rfl (by kernel_rfl) (fun _ _ _ h => h) (Or.inl ⟨by rfl, ?_⟩) hHeld ?_ ?_
      rotate_left
      · intro w' hS
        go_simp
        have hcap := (Kd.R_reads' HQ.out).2.1
        have hsl_ := HSLy.out
        have hll_ := HLY.out
        have hw_ : IntKind.i64.wrap ((sy.length : Int) - 1) = ((sy.length - 1 : Nat) : Int) := by rw [i64_w, w64 ⟨by omega, by omega⟩]; omega
        rw [hw_, if_pos ⟨by omega, by omega⟩, Int.toNat_natCast]
      rotate_left
      · simp only [Act.put, List.setIfInBounds_toArray, List.set_cons_zero, List.set_cons_succ]
        rfl
      refine pure_ (i := 10) (N := some 105) (v := ?_) (a' := ?_) (bt 21 2047) rfl rfl (by kernel_rfl) (fun _ _ _ h => h) (Or.inl ⟨by rfl, ?_⟩) ?_ ?_
      rotate_left
      · intro w'
        go_simp
        first | with_reducible rfl | (simp [Instr.field, go_sem]; rfl)
      rotate_left
      · simp only [Act.put, List.setIfInBounds_toArray, List.set_cons_zero, List.set_cons_succ]
        rfl
      refine pure_ (i := 11) (N := some 106) (v := ?_) (a' := ?_) (bt 21 4095) rfl rfl (by kernel_rfl) (fun _ _ _ h => h) (Or.inl ⟨by rfl, ?_⟩) ?_ ?_
      rotate_left
      · intro w'
        go_simp
        first | with_reducible rfl | (simp [Instr.field, go_sem]; rfl)
      rotate_left
      · simp only [Act.put, List.setIfInBounds_toArray, List.set_cons_zero, List.set_cons_succ]
        rfl
      refine pure_ (i := 12) (N := some 107) (v := ?_) (a' := ?_) (bt 21 8191) rfl rfl (by kernel_rfl) (fun _ _ _ h => h) (Or.inl ⟨by rfl, ?_⟩) ?_ ?_
      rotate_left
      · intro w'
        go_simp
        first | with_reducible rfl | (simp [Instr.field, go_sem]; rfl)
      rotate_left
      · simp only [Act.put, List.setIfInBounds_toArray, List.set_cons_zero, List.set_cons_succ]
        rfl
      refine pure_ (i := 13) (N := some 108) (v := ?_) (a' := ?_) (bt 21 16383) rfl rfl (by kernel_rfl) (fun _ _ _ h => h) (Or.inl ⟨by rfl, ?_⟩) ?_ ?_
      rotate_left
      · intro w'
        go_simp
        first | with_reducible rfl | (simp [Instr.field, go_sem]; rfl)
      rotate_left
      · simp only [Act.put, List.setIfInBounds_toArray, List.set_cons_zero, List.set_cons_succ]
        rfl
      refine take_ (i := 14) (N := some 109) (v := ?_) (a' := ?_) (bt 21 32767) rfl rfl (by kernel_rfl) (fun _ _ _ h => h) (Or.inl ⟨by rfl, ?_⟩) hHeld ?_ ?_
      rotate_left
      · intro w' hS
        go_simp
        have hcap := HC.out
        have hsl_ := HSLy.out
        have hll_ := HLY.out
        have hw_ : IntKind.i64.wrap ((sy.length : Int) - 1) = ((sy.length - 1 : Nat) : Int) := by rw [i64_w, w64 ⟨by omega, by omega⟩]; omega
        rw [hw_, if_pos ⟨by omega, by omega⟩, Int.toNat_natCast]
      rotate_left
      · simp only [Act.put, List.setIfInBounds_toArray, List.set_cons_zero, List.set_cons_succ]
        rfl
      refine one_ (i := 15) (N := some 110) (bt 21 65535) rfl rfl (by kernel_rfl) (by decide) (fun K hK => ?_)
      refine goes_ Try.func18 (by kernel_rfl) rfl #[.slice Ay (sy.length - 1) cy, .slice (some ad) (sy.length - 1) c1] (by rfl) rfl rfl (by (try simp only [List.map_toArray, List.map_cons, List.map_nil]); first | done | rfl) ?_
      refine (As.bytesN (l := sy.take (sy.length - 1)) (m := l.take (sy.length - 1)) (by simp) (by have := HLY.out; simp; omega) (Kd.C_take (Kd.C_below (Kd.R_reads' HQ.out).2.2 hHeld) (by omega)) (by have := (Kd.R_reads' HQ.out).2.1; simp; omega) (Kd.C_take (Kd.C_below HR.out (below_step HB.out hHeld)) (by have := HLY.out; omega)) (by have := HC.out; simp; omega) (by have := HSLy.out; simp; omega) HTK.out).mono ?_
      rintro e v15 ⟨rfl, hb⟩
      refine ⟨_, rfl, ?_⟩
      refine hK.out _ _ (below_step hHeld hb) (fun hHeld => ?_)
      clear hK K hb
      refine norm_ (a' := ?_) ?_ ?_
      rotate_left
      · show Act.put _ (some 110) _ = _
        simp only [Act.put, List.setIfInBounds_toArray, List.set_cons_zero, List.set_cons_succ]
        rfl
      refine pure_ (i := 16) (N := some 111) (v := ?_) (a' := ?_) (bt 21 131071) rfl rfl (by kernel_rfl) (fun _ _ _ h => h) (Or.inl ⟨by rfl, ?_⟩) ?_ ?_
      rotate_left
      · intro w'
        go_simp
        first | with_reducible rfl | (simp [Instr.field, go_sem]; rfl)
      rotate_left
      · simp only [Act.put, List.setIfInBounds_toArray, List.set_cons_zero, List.set_cons_succ]
        rfl
      refine pure_ (i := 17) (N := some 112) (v := ?_) (a' := ?_) (bt 21 262143) rfl rfl (by kernel_rfl) (fun _ _ _ h => h) (Or.inl ⟨by rfl, ?_⟩) ?_ ?_
      rotate_left
      · intro w'
        go_simp
        first | with_reducible rfl | (simp [Instr.field, go_sem]; rfl)
      rotate_left
      · simp only [Act.put, List.setIfInBounds_toArray, List.set_cons_zero, List.set_cons_succ]
        rfl
      refine one_ (i := 18) (N := some 113) (bt 21 524287) rfl rfl (by kernel_rfl) (by decide) (fun K hK => ?_)
      refine goes_ Try.func11 (by kernel_rfl) rfl #[] (by rfl) rfl rfl (by (try simp only [List.map_toArray, List.map_cons, List.map_nil]); first | done | rfl) ?_
      refine (As.sure).mono ?_
      rintro e v18 ⟨rfl, hb⟩
      refine ⟨_, rfl, ?_⟩
      refine hK.out _ _ (below_step hHeld hb) (fun hHeld => ?_)
      clear hK K hb
      refine norm_ (a' := ?_) ?_ ?_
      rotate_left
      · show Act.put _ (some 113) _ = _
        simp only [Act.put, List.setIfInBounds_toArray, List.set_cons_zero, List.set_cons_succ]
        rfl
      refine pure_ (i := 19) (N := some 114) (v := ?_) (a' := ?_) (bt 21 1048575) rfl rfl (by kernel_rfl) (fun _ _ _ h => h) (Or.inl ⟨by rfl, ?_⟩) ?_ ?_
      rotate_left
      · intro w'
        go_simp
        first | with_reducible rfl | (simp [Instr.field, go_sem]; rfl)
      rotate_left
      · simp only [Act.put, List.setIfInBounds_toArray, List.set_cons_zero, List.set_cons_succ]
        rfl
      refine pure_ (i := 20) (N := some 4) (v := ?_) (a' := ?_) (bt 21 2097151) rfl rfl (by kernel_rfl) (fun _ _ _ h => h) (Or.inl ⟨by rfl, ?_⟩) ?_ ?_
      rotate_left
      · intro w'
        go_simp
        first | with_reducible rfl | (simp [Instr.field, go_sem]; rfl)
      rotate_left
      · simp only [Act.put, List.setIfInBounds_toArray, List.set_cons_zero, List.set_cons_succ]
        rfl
      refine done_ (by kernel_rfl) ?_
      go_wp2
      go_ret
      exact ⟨rfl, below_step HB.out hHeld⟩

set_option maxHeartbeats 1000000 in
theorem bilgelaw15_AskBack.calls (a0_0 : Int) (a0_1 : Int) (a0_2 : Int) (a0_3 : Int) (a0_4 : Int) (a0_5 : Int) (a0_6 : Int) (a0_7 : Int) (A0_8 : Option Addr) (c0_8 : Nat) (l0_8 : List Bool) (A0_9 : Option Addr) (c0_9 : Nat) (l0_9 : List Int) (A1 : Option Addr) (c1 : Nat) (l1 : List Int) (r : Bool) (w : World) (hr0_8 : Kd.C Kd.bool w A0_8 l0_8.length l0_8) (hc0_8 : l0_8.length ≤ c0_8) (hr0_9 : Kd.C (Kd.int .u16) w A0_9 l0_9.length l0_9) (hc0_9 : l0_9.length ≤ c0_9) (hr1 : Kd.C (Kd.int .u8) w A1 l1.length l1) (hc1 : l1.length ≤ c1) (h : bilgelaw15_AskBack.f a0_0 a0_1 a0_2 a0_3 a0_4 a0_5 a0_6 a0_7 l0_8 l0_9 l1 = some r) :
    Calls Try.prog 5 #[.agg #[.int .i64 a0_0, .int .i64 a0_1, .int .i64 a0_2, .int .i64 a0_3, .int .i64 a0_4, .int .i64 a0_5, .int .i64 a0_6, .int .i64 a0_7, .slice A0_8 l0_8.length c0_8, .slice A0_9 l0_9.length c0_9], .slice A1 l1.length c1] w fun e w' => e = .returned (.bool r) ∧ Below w.heap.size w w' := by
  unfold bilgelaw15_AskBack.f at h
  split at h
  rotate_left
  · cases h
  rename_i hq
  obtain rfl := Option.some.inj h
  exact As.lawBack (As.mk hc0_8 hr0_8 hc0_9 hr0_9) hq.1 hr1 hc1 (fun x hx => by have := hq.2 x hx; unfold U8; omega)

end Go.Proofs.Ytedfbemifigoeaa.P
