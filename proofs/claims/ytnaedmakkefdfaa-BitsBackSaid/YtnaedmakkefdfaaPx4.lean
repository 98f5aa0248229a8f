-- Written by the session's own turn of the kit's print program (wip/patch_print.py). Not trusted: Lean checks it.
import Derived.Test.YtnaedmakkefdfaaPx0
import Derived.Test.YtnaedmakkefdfaaPx1
import Derived.Test.YtnaedmakkefdfaaPx2
import Derived.Test.YtnaedmakkefdfaaPx3
namespace Go.Proofs.Ytnaedmakkefdfaa.P
open Go.RowKit Go.Proofs.YtnaedmakkefdfaaW.PrintWords Go.Proofs.YtnaedmakkefdfaaW.PrintLast Go.Proofs.YtnaedmakkefdfaaW.PrintMore
attribute [local go_sem] max2_int min2_int max_two min_two max_three min_three max_four min_four   -- for this text's walks alone
set_option linter.unusedVariables false
set_option linter.unusedSimpArgs false

/-! ### bilgelaw02_BitsTell: function 3 -/
mutual
def bilgelaw02_BitsTell.j0 : Nat → List Bool → List Int → Int → Bool → Option (Bool)
 | 0, _, _, _, _ => none
 | k + 1, x0, x1, x2, x20 => if x20 = true then ((bilgelaw02_sure.f k).bind fun t181 => (some t181)) else ((bits_Unpack.f k x1 x2).bind fun bt182 => ((bilgeref02_Unpack.f k x1 x2).bind fun bt186 => ((bilgeref02_Pack.f k x0).bind fun t190 => (if (t190.length : Int) > 0 then (if 0 < (t190.length : Int) then (bilgelaw02_BitsTell.j1 k x0 x1 x2 bt182.1 bt182.2 bt186.1 bt186.2 (rd t190 0)) else (none)) else (bilgelaw02_BitsTell.j1 k x0 x1 x2 bt182.1 bt182.2 bt186.1 bt186.2 0)))))
def bilgelaw02_BitsTell.j1 : Nat → List Bool → List Int → Int → List Bool → Int → List Bool → Int → Int → Option (Bool)
 | 0, _, _, _, _, _, _, _, _ => none
 | k + 1, x0, x1, x2, x7, x8, x9, x10, x11 => (bits_Pack.f k x0).bind fun t194 => ((bilgeref02_Pack.f k x0).bind fun t197 => ((bilgeref01_Bytes.f k t194 t197).bind fun t200 => (if t200 = true then ((bilgeref02_Same.f k x7 x9).bind fun t201 => (if t201 = true then (if x8 = x10 then ((bits_Size.f x2).bind fun t202 => ((bilgeref02_Size.f x2).bind fun t203 => (if t202 = t203 then ((bits_Tidy.f x1 x2).bind fun t204 => ((bilgeref02_Tidy.f k x1 x2).bind fun t205 => (if (t204 == t205) = true then ((bits_Ones.f k x0).bind fun t206 => ((bilgeref02_Ones.f k x0).bind fun t207 => (if t206 = t207 then ((bits_Flags.f k x0).bind fun t208 => (if t208 = x11 then ((bilgelaw02_sure.f k).bind fun t209 => (some t209)) else (none))) else (none)))) else (none)))) else (none)))) else (none)) else (none))) else (none))))
end
def bilgelaw02_BitsTell.f (k : Nat) (l0 : List Bool) (l1 : List Int) (a2 : Int) : Option (Bool) := if (l0.length : Int) > 2500 then (bilgelaw02_BitsTell.j0 k l0 l1 a2 true) else (bilgelaw02_BitsTell.j0 k l0 l1 a2 (decide ((l1.length : Int) > 400)))
theorem bilgelaw02_BitsTell.mono_l : ∀ k, (∀ y0 y1 y2 y3, LeO (bilgelaw02_BitsTell.j0 k y0 y1 y2 y3) (bilgelaw02_BitsTell.j0 (k + 1) y0 y1 y2 y3)) ∧ (∀ y0 y1 y2 y3 y4 y5 y6 y7, LeO (bilgelaw02_BitsTell.j1 k y0 y1 y2 y3 y4 y5 y6 y7) (bilgelaw02_BitsTell.j1 (k + 1) y0 y1 y2 y3 y4 y5 y6 y7))
 | 0 => ⟨fun _ _ _ _ r h => by simp [bilgelaw02_BitsTell.j0] at h, fun _ _ _ _ _ _ _ _ r h => by simp [bilgelaw02_BitsTell.j1] at h⟩
 | k + 1 => by
  obtain ⟨ih0, ih1⟩ := bilgelaw02_BitsTell.mono_l k
  refine ⟨?_, ?_⟩
  ·intro y0 y1 y2 y3
   unfold bilgelaw02_BitsTell.j0
   repeat' first
   | (with_reducible exact ih0 _ _ _ _)
   | (with_reducible exact ih1 _ _ _ _ _ _ _ _)
   | (with_reducible exact bilgelaw02_sure.mono _)
   | (with_reducible exact bilgeref01_Bytes.mono _ _ _)
   | (with_reducible exact bilgeref02_Ones.mono _ _)
   | (with_reducible exact bilgeref02_Pack.mono _ _)
   | (with_reducible exact bilgeref02_Same.mono _ _ _)
   | (with_reducible exact bilgeref02_Tidy.mono _ _ _)
   | (with_reducible exact bilgeref02_Unpack.mono _ _ _)
   | (with_reducible exact bits_Flags.mono _ _)
   | (with_reducible exact bits_Ones.mono _ _)
   | (with_reducible exact bits_Pack.mono _ _)
   | (with_reducible exact bits_Unpack.mono _ _ _)
   | (with_reducible exact LeO.refl _)
   | (with_reducible exact LeO.none _)
   | (with_reducible refine LeO.ite ?_ ?_)
   | (with_reducible refine LeO.bind ?_ (fun _ => ?_))
   | exact ih0 _ _ _ _
   | exact ih1 _ _ _ _ _ _ _ _
   | exact bilgelaw02_sure.mono _
   | exact bilgeref01_Bytes.mono _ _ _
   | exact bilgeref02_Ones.mono _ _
   | exact bilgeref02_Pack.mono _ _
   | exact bilgeref02_Same.mono _ _ _
   | exact bilgeref02_Tidy.mono _ _ _
   | exact bilgeref02_Unpack.mono _ _ _
   | exact bits_Flags.mono _ _
   | exact bits_Ones.mono _ _
   | exact bits_Pack.mono _ _
   | exact bits_Unpack.mono _ _ _
   | exact LeO.none _
   | refine LeO.ite ?_ ?_
   | refine LeO.bind ?_ (fun _ => ?_)
  ·intro y0 y1 y2 y3 y4 y5 y6 y7
   unfold bilgelaw02_BitsTell.j1
   repeat' first
   | (with_reducible exact ih0 _ _ _ _)
   | (with_reducible exact ih1 _ _ _ _ _ _ _ _)
   | (with_reducible exact bilgelaw02_sure.mono _)
   | (with_reducible exact bilgeref01_Bytes.mono _ _ _)
   | (with_reducible exact bilgeref02_Ones.mono _ _)
   | (with_reducible exact bilgeref02_Pack.mono _ _)
   | (with_reducible exact bilgeref02_Same.mono _ _ _)
   | (with_reducible exact bilgeref02_Tidy.mono _ _ _)
   | (with_reducible exact bilgeref02_Unpack.mono _ _ _)
   | (with_reducible exact bits_Flags.mono _ _)
   | (with_reducible exact bits_Ones.mono _ _)
   | (with_reducible exact bits_Pack.mono _ _)
   | (with_reducible exact bits_Unpack.mono _ _ _)
   | (with_reducible exact LeO.refl _)
   | (with_reducible exact LeO.none _)
   | (with_reducible refine LeO.ite ?_ ?_)
   | (with_reducible refine LeO.bind ?_ (fun _ => ?_))
   | exact ih0 _ _ _ _
   | exact ih1 _ _ _ _ _ _ _ _
   | exact bilgelaw02_sure.mono _
   | exact bilgeref01_Bytes.mono _ _ _
   | exact bilgeref02_Ones.mono _ _
   | exact bilgeref02_Pack.mono _ _
   | exact bilgeref02_Same.mono _ _ _
   | exact bilgeref02_Tidy.mono _ _ _
   | exact bilgeref02_Unpack.mono _ _ _
   | exact bits_Flags.mono _ _
   | exact bits_Ones.mono _ _
   | exact bits_Pack.mono _ _
   | exact bits_Unpack.mono _ _ _
   | exact LeO.none _
   | refine LeO.ite ?_ ?_
   | refine LeO.bind ?_ (fun _ => ?_)
theorem bilgelaw02_BitsTell.mono : ∀ a0 a1 a2 k, LeO (bilgelaw02_BitsTell.f k a0 a1 a2) (bilgelaw02_BitsTell.f (k + 1) a0 a1 a2) := by
 intro a0 a1 a2 k
 obtain ⟨ih0, ih1⟩ := bilgelaw02_BitsTell.mono_l k
 unfold bilgelaw02_BitsTell.f
 repeat' first
   | (with_reducible exact ih0 _ _ _ _)
   | (with_reducible exact ih1 _ _ _ _ _ _ _ _)
   | (with_reducible exact bilgelaw02_sure.mono _)
   | (with_reducible exact bilgeref01_Bytes.mono _ _ _)
   | (with_reducible exact bilgeref02_Ones.mono _ _)
   | (with_reducible exact bilgeref02_Pack.mono _ _)
   | (with_reducible exact bilgeref02_Same.mono _ _ _)
   | (with_reducible exact bilgeref02_Tidy.mono _ _ _)
   | (with_reducible exact bilgeref02_Unpack.mono _ _ _)
   | (with_reducible exact bits_Flags.mono _ _)
   | (with_reducible exact bits_Ones.mono _ _)
   | (with_reducible exact bits_Pack.mono _ _)
   | (with_reducible exact bits_Unpack.mono _ _ _)
   | (with_reducible exact LeO.refl _)
   | (with_reducible exact LeO.none _)
   | (with_reducible refine LeO.ite ?_ ?_)
   | (with_reducible refine LeO.bind ?_ (fun _ => ?_))
   | exact ih0 _ _ _ _
   | exact ih1 _ _ _ _ _ _ _ _
   | exact bilgelaw02_sure.mono _
   | exact bilgeref01_Bytes.mono _ _ _
   | exact bilgeref02_Ones.mono _ _
   | exact bilgeref02_Pack.mono _ _
   | exact bilgeref02_Same.mono _ _ _
   | exact bilgeref02_Tidy.mono _ _ _
   | exact bilgeref02_Unpack.mono _ _ _
   | exact bits_Flags.mono _ _
   | exact bits_Ones.mono _ _
   | exact bits_Pack.mono _ _
   | exact bits_Unpack.mono _ _ _
   | exact LeO.none _
   | refine LeO.ite ?_ ?_
   | refine LeO.bind ?_ (fun _ => ?_)
set_option maxHeartbeats 8000000 in
set_option maxRecDepth 100000 in
theorem bilgelaw02_BitsTell.calls (k : Nat) (A0 : Option Addr) (c0 : Nat) (l0 : List Bool) (A1 : Option Addr) (c1 : Nat) (l1 : List Int) (a2 : Int) (r : Bool) (w : World) (hr0 : Kd.C Kd.bool w A0 l0.length l0) (hc0 : l0.length ≤ c0) (hr1 : Kd.C (Kd.int .u8) w A1 l1.length l1) (hc1 : l1.length ≤ c1) (h : bilgelaw02_BitsTell.f k l0 l1 a2 = some r) :
  Calls Try.prog 3 #[.slice A0 l0.length c0, .slice A1 l1.length c1, .int .i64 a2] w fun e w' => e = .returned (.bool r) ∧ Below w.heap.size w w' := by
 have HR0 := Aside0.mk hr0
 have HC0 := Aside0.mk hc0
 clear hr0 hc0
 have HR1 := Aside0.mk hr1
 have HC1 := Aside0.mk hc1
 clear hr1 hc1
 have HB := Aside0.mk (Below.refl w.heap.size w)
 have H : (if (l0.length : Int) > 2500 then (bilgelaw02_BitsTell.j0 k l0 l1 a2 true) else (bilgelaw02_BitsTell.j0 k l0 l1 a2 (decide ((l1.length : Int) > 400)))) = some r := h
 clear h
 have HC4 := Aside0.mk H
 clear H
 go_enter Try.func3, Try.ntmps3
 go_upto_region 1 with (fail)
 go_cut [20] (fun v20 wc => ∃ (kq : Nat) (x20_3 : Bool), v20 = .bool x20_3 ∧ Aside0 (bilgelaw02_BitsTell.j0 kq l0 l1 a2 x20_3 = some r) ∧ Aside0 (kq ≤ k) ∧ Aside0 (Below w.heap.size w wc))
 case first =>
  have H := HC4.out
  clear HC4
  by_cases c5 : (l0.length : Int) > 2500
  ·rw [if_pos c5] at H
   have c5b0 : decide (2500 < (l0.length : Int)) = true := decide_eq_true c5
   have c5b1 : decide (2500 < l0.length) = true := decide_eq_true (by omega)
   clear c5
   (first | rw [c5b0] | (simp only [i64_w, i32_w]; rw [c5b0]) | skip)
   have H' := Aside0.mk H
   clear H
   go_wp2
   all_goals try (first | exact absurd (of_decide_eq_true c5b0) (by assumption) | exact absurd (of_decide_eq_true c5b1) (by assumption))
   go_meet
   case rel => exact ⟨_, (true), (by first | rfl | (simp; done) | (simp [*]; done)), H', ⟨by first | omega | exact Nat.le_refl _⟩, ⟨by repeat (first | (with_reducible first | exact HB.out | apply below_alloc | apply pw_below_drewN | apply below_drew1) | exact HB.out)⟩⟩
  ·rw [if_neg c5] at H
   have c5b0 : decide (2500 < (l0.length : Int)) = false := decide_eq_false c5
   have c5b1 : decide (2500 < l0.length) = false := decide_eq_false (by omega)
   clear c5
   (first | rw [c5b0] | (simp only [i64_w, i32_w]; rw [c5b0]) | skip)
   have H' := Aside0.mk H
   clear H
   go_wp2
   all_goals try (first | exact absurd (by assumption) (of_decide_eq_false c5b0) | exact absurd (by assumption) (of_decide_eq_false c5b1))
   go_meet
   case rel => exact ⟨_, (decide ((l1.length : Int) > 400)), (by first | rfl | (simp; done) | (simp [*]; done)), H', ⟨by first | omega | exact Nat.le_refl _⟩, ⟨by repeat (first | (with_reducible first | exact HB.out | apply below_alloc | apply pw_below_drewN | apply below_drew1) | exact HB.out)⟩⟩
 case rest =>
  clear HC4
  try clear c1
  try clear p2
  try clear c3
  try clear c5
  try clear c5b0
  try clear c5b1
  obtain ⟨kq, x20_3, rfl, HA, HJ3, HB⟩ := hcut
  cases kq with
  | zero => exact absurd HA.out (by simp [bilgelaw02_BitsTell.j0])
  | succ kj3 =>
   have H := HA.out
   clear HA
   simp only [bilgelaw02_BitsTell.j0] at H
   by_cases c6 : x20_3 = true
   ·subst c6
    have H1 : ((bilgelaw02_sure.f kj3).bind fun t181 => (some t181)) = some r := by rw [if_pos rfl] at H; exact H
    clear H
    have H := H1
    clear H1
    replace H := Option.bind_eq_some_iff.mp H
    obtain ⟨t181, A70, H⟩ := H
    replace H : (some t181) = some r := H
    have A7 := Aside0.mk A70
    clear A70
    obtain rfl := Option.some.inj H
    go_wp2_with (first | ((with_reducible refine gate_callee (f := 14) rfl ?_); refine goesL_ (some 21) rfl rfl Try.func14 (by kernel_rfl) rfl #[] rfl (by (try simp only [List.map_toArray, List.map_cons, List.map_nil]); first | done | rfl | (simp only [List.length_drop, List.length_take]; rfl)) ?_; (with_reducible refine (bilgelaw02_sure.calls kj3  t181 _ A7.out).mono ?_); rintro e w8 ⟨rfl, hb⟩; refine ⟨_, rfl, ?_⟩; have n0_ := Aside0.mk (below_step (by repeat (first | (with_reducible first | exact HB.out | apply below_alloc | apply pw_below_drewN | apply below_drew1) | exact HB.out)) hb); clear HB; have HB := n0_; clear n0_; (try clear hb); (try clear hb2); (try clear hk); (try clear hi)))
    go_ret
    exact ⟨by first | rfl | (simp [errW_none, errW_some] <;> rfl) | (simp [*, errW_none, errW_some] <;> rfl), by repeat (first | (with_reducible first | exact HB.out | apply below_alloc | apply pw_below_drewN | apply below_drew1) | exact HB.out)⟩
   ·replace c6 := Bool.eq_false_iff.mpr c6
    subst c6
    have H1 : ((bits_Unpack.f kj3 l1 a2).bind fun bt182 => ((bilgeref02_Unpack.f kj3 l1 a2).bind fun bt186 => ((bilgeref02_Pack.f kj3 l0).bind fun t190 => (if (t190.length : Int) > 0 then (if 0 < (t190.length : Int) then (bilgelaw02_BitsTell.j1 kj3 l0 l1 a2 bt182.1 bt182.2 bt186.1 bt186.2 (rd t190 0)) else (none)) else (bilgelaw02_BitsTell.j1 kj3 l0 l1 a2 bt182.1 bt182.2 bt186.1 bt186.2 0))))) = some r := by rw [if_neg (show ¬ (false = true) by decide)] at H; exact H
    clear H
    have H := H1
    clear H1
    replace H := Option.bind_eq_some_iff.mp H
    obtain ⟨⟨t182, t183⟩, A90, H⟩ := H
    replace H : ((bilgeref02_Unpack.f kj3 l1 a2).bind fun bt186 => ((bilgeref02_Pack.f kj3 l0).bind fun t190 => (if (t190.length : Int) > 0 then (if 0 < (t190.length : Int) then (bilgelaw02_BitsTell.j1 kj3 l0 l1 a2 t182 t183 bt186.1 bt186.2 (rd t190 0)) else (none)) else (bilgelaw02_BitsTell.j1 kj3 l0 l1 a2 t182 t183 bt186.1 bt186.2 0)))) = some r := H
    have A9 := Aside0.mk A90
    clear A90
    replace H := Option.bind_eq_some_iff.mp H
    obtain ⟨⟨t186, t187⟩, A100, H⟩ := H
    replace H : ((bilgeref02_Pack.f kj3 l0).bind fun t190 => (if (t190.length : Int) > 0 then (if 0 < (t190.length : Int) then (bilgelaw02_BitsTell.j1 kj3 l0 l1 a2 t182 t183 t186 t187 (rd t190 0)) else (none)) else (bilgelaw02_BitsTell.j1 kj3 l0 l1 a2 t182 t183 t186 t187 0))) = some r := H
    have A10 := Aside0.mk A100
    clear A100
    replace H := Option.bind_eq_some_iff.mp H
    obtain ⟨t190, A110, H⟩ := H
    replace H : (if (t190.length : Int) > 0 then (if 0 < (t190.length : Int) then (bilgelaw02_BitsTell.j1 kj3 l0 l1 a2 t182 t183 t186 t187 (rd t190 0)) else (none)) else (bilgelaw02_BitsTell.j1 kj3 l0 l1 a2 t182 t183 t186 t187 0)) = some r := H
    have A11 := Aside0.mk A110
    clear A110
    have HC12 := Aside0.mk H
    clear H
    go_upto_if 38 with (first | ((with_reducible refine gate_callee (f := 15) rfl ?_); refine goesL_ (some 25) rfl rfl Try.func15 (by kernel_rfl) rfl #[.slice A1 l1.length c1, .int .i64 a2] rfl (by (try simp only [List.map_toArray, List.map_cons, List.map_nil]); first | done | rfl | (simp only [List.length_drop, List.length_take]; rfl)) ?_; (with_reducible refine (bits_Unpack.calls kj3 _ _ l1 a2 t182 t183 _ ?side1 ?side2 A9.out).mono ?_); (case side1 => repeat (first | exact (Kd.C_below HR1.out HB.out) | (with_reducible refine Kd.C_alloc ?_ _) | (with_reducible refine Kd.C_drewN ?_ _) | (with_reducible refine Kd.C_drew ?_))); (case side2 => exact HC1.out); rintro e w13 ⟨v184, rfl, ho0, hb⟩; refine ⟨_, rfl, ?_⟩; have n0_ := Aside0.mk (Kd.R_lower ho0 (below_size (by repeat (first | (with_reducible first | exact HB.out | apply below_alloc | apply pw_below_drewN | apply below_drew1) | exact HB.out)))); have n1_ := Aside0.mk (below_step (by repeat (first | (with_reducible first | exact HB.out | apply below_alloc | apply pw_below_drewN | apply below_drew1) | exact HB.out)) hb); clear HB; have HO185 := n0_; have HB := n1_; clear n0_ n1_; (try clear hb); (try clear hb2); (try clear hk); (try clear hi); (try clear ho0)) | ((with_reducible refine gate_callee (f := 16) rfl ?_); refine goesL_ (some 31) rfl rfl Try.func16 (by kernel_rfl) rfl #[.slice A1 l1.length c1, .int .i64 a2] rfl (by (try simp only [List.map_toArray, List.map_cons, List.map_nil]); first | done | rfl | (simp only [List.length_drop, List.length_take]; rfl)) ?_; (with_reducible refine (bilgeref02_Unpack.calls kj3 _ _ l1 a2 t186 t187 _ ?side1 ?side2 A10.out).mono ?_); (case side1 => repeat (first | exact (Kd.C_below HR1.out HB.out) | (with_reducible refine Kd.C_alloc ?_ _) | (with_reducible refine Kd.C_drewN ?_ _) | (with_reducible refine Kd.C_drew ?_))); (case side2 => exact HC1.out); rintro e w14 ⟨v188, rfl, ho0, hb⟩; refine ⟨_, rfl, ?_⟩; have n0_ := Aside0.mk (Kd.R_elder' (by (with_reducible repeat (first | apply Kd.R_alloc | apply Kd.R_drewN | apply Kd.R_drew)); exact HO185.out) (Kd.R_base ho0) hb); have n1_ := Aside0.mk (Kd.R_lower (Kd.R_new' ho0 (Kd.R_lt (by (with_reducible repeat (first | apply Kd.R_alloc | apply Kd.R_drewN | apply Kd.R_drew)); exact HO185.out))) (below_size (by repeat (first | (with_reducible first | exact HB.out | apply below_alloc | apply pw_below_drewN | apply below_drew1) | exact HB.out)))); have n2_ := Aside0.mk (below_step (by repeat (first | (with_reducible first | exact HB.out | apply below_alloc | apply pw_below_drewN | apply below_drew1) | exact HB.out)) hb); clear HO185; clear HB; have HO185 := n0_; have HO189 := n1_; have HB := n2_; clear n0_ n1_ n2_; (try clear hb); (try clear hb2); (try clear hk); (try clear hi); (try clear ho0)) | ((with_reducible refine gate_callee (f := 17) rfl ?_); refine goesL_ (some 35) rfl rfl Try.func17 (by kernel_rfl) rfl #[.slice A0 l0.length c0] rfl (by (try simp only [List.map_toArray, List.map_cons, List.map_nil]); first | done | rfl | (simp only [List.length_drop, List.length_take]; rfl)) ?_; (with_reducible refine (bilgeref02_Pack.calls kj3 _ _ l0 t190 _ ?side1 ?side2 A11.out).mono ?_); (case side1 => repeat (first | exact (Kd.C_below HR0.out HB.out) | (with_reducible refine Kd.C_alloc ?_ _) | (with_reducible refine Kd.C_drewN ?_ _) | (with_reducible refine Kd.C_drew ?_))); (case side2 => exact HC0.out); rintro e w15 ⟨v191, rfl, ho0, hb⟩; refine ⟨_, rfl, ?_⟩; have n0_ := Aside0.mk (Kd.R_below (by (with_reducible repeat (first | apply Kd.R_alloc | apply Kd.R_drewN | apply Kd.R_drew)); exact HO185.out) hb); have n1_ := Aside0.mk (Kd.R_below (by (with_reducible repeat (first | apply Kd.R_alloc | apply Kd.R_drewN | apply Kd.R_drew)); exact HO189.out) hb); have n2_ := Aside0.mk (Kd.R_lower ho0 (below_size (by repeat (first | (with_reducible first | exact HB.out | apply below_alloc | apply pw_below_drewN | apply below_drew1) | exact HB.out)))); have n3_ := Aside0.mk (below_step (by repeat (first | (with_reducible first | exact HB.out | apply below_alloc | apply pw_below_drewN | apply below_drew1) | exact HB.out)) hb); clear HO185; clear HO189; clear HB; have HO185 := n0_; have HO189 := n1_; have HO192 := n2_; have HB := n3_; clear n0_ n1_ n2_ n3_; (try clear hb); (try clear hb2); (try clear hk); (try clear hi); (try clear ho0); obtain ⟨Ao16, co16, eo16⟩ := Kd.R_slice HO192.out; subst eo16))
    (try simp only [Act.put, List.setIfInBounds_toArray, List.set_cons_zero, List.set_cons_succ])
    go_cut [11] (fun v11 wc => ∃ (kq : Nat) (x11_11 : Int), v11 = .int .u8 x11_11 ∧ Aside0 (bilgelaw02_BitsTell.j1 kq l0 l1 a2 t182 t183 t186 t187 x11_11 = some r) ∧ Aside0 (kq ≤ kj3) ∧ Aside0 (Kd.R Kd.bool 4 wc w.heap.size (fun k_ => some k_ ≠ (v188 : Value).ownBlock) v184 t182) ∧ Aside0 (Kd.R Kd.bool 4 wc w.heap.size (fun k_ => some k_ ≠ (v184 : Value).ownBlock) v188 t186) ∧ Aside0 (Below w.heap.size w wc))
    case first =>
     have H := HC12.out
     clear HC12
     by_cases c17 : (t190.length : Int) > 0
     ·rw [if_pos c17] at H
      have c17b0 : decide (0 < (t190.length : Int)) = true := decide_eq_true c17
      have c17b1 : decide (0 < t190.length) = true := decide_eq_true (by omega)
      clear c17
      (first | rw [c17b0] | (simp only [i64_w, i32_w]; rw [c17b0]) | skip)
      by_cases c18 : 0 < (t190.length : Int)
      ·rw [if_pos c18] at H
       have c18b0 : decide (0 < (t190.length : Int)) = true := decide_eq_true c18
       have c18b1 : decide (0 < t190.length) = true := decide_eq_true (by omega)
       clear c18
       have H' := Aside0.mk H
       clear H
       have p193 : 0 ≤ (0 : Int) := (by omega)
       have q193 : 0 < (t190.length : Int) := of_decide_eq_true (by first | (with_reducible assumption) | assumption)
       obtain ⟨ad193, e193, hx193_0⟩ := Kd.at_int (Kd.R_reads' HO192.out).2.2 0 p193 q193
       cases e193
       have qi193 : (0 < t190.length) = True := eq_true (by omega)
       (try rw [show ((0 : Int)).toNat = 0 from rfl] at hx193_0)
       (try rw [Addr.add_zero'] at hx193_0)
       replace p193 := eq_true p193
       replace q193 := eq_true q193
       go_wp2
       all_goals try (first | exact absurd (of_decide_eq_true c17b0) (by assumption) | exact absurd (of_decide_eq_true c17b1) (by assumption) | exact absurd (of_decide_eq_true c18b0) (by assumption) | exact absurd (of_decide_eq_true c18b1) (by assumption))
       go_meet
       case rel => exact ⟨_, (rd t190 0), (by first | rfl | (simp; done) | (simp [*]; done)), H', ⟨by have := HJ3.out; first | omega | exact Nat.le_refl _⟩, ⟨by (with_reducible repeat (first | apply Kd.R_alloc | apply Kd.R_drewN | apply Kd.R_drew)); exact Kd.R_mono HO185.out (fun _ hk => hk.2)⟩, ⟨by (with_reducible repeat (first | apply Kd.R_alloc | apply Kd.R_drewN | apply Kd.R_drew)); exact Kd.R_mono HO189.out (fun _ hk => hk.2)⟩, ⟨by repeat (first | (with_reducible first | exact HB.out | apply below_alloc | apply pw_below_drewN | apply below_drew1) | exact HB.out)⟩⟩
      ·rw [if_neg c18] at H
       exact absurd H (by simp)
     ·rw [if_neg c17] at H
      have c17b0 : decide (0 < (t190.length : Int)) = false := decide_eq_false c17
      have c17b1 : decide (0 < t190.length) = false := decide_eq_false (by omega)
      clear c17
      (first | rw [c17b0] | (simp only [i64_w, i32_w]; rw [c17b0]) | skip)
      have H' := Aside0.mk H
      clear H
      go_wp2
      all_goals try (first | exact absurd (by assumption) (of_decide_eq_false c17b0) | exact absurd (by assumption) (of_decide_eq_false c17b1))
      go_meet
      case rel => exact ⟨_, (0), (by first | rfl | (simp; done) | (simp [*]; done)), H', ⟨by have := HJ3.out; first | omega | exact Nat.le_refl _⟩, ⟨by (with_reducible repeat (first | apply Kd.R_alloc | apply Kd.R_drewN | apply Kd.R_drew)); exact Kd.R_mono HO185.out (fun _ hk => hk.2)⟩, ⟨by (with_reducible repeat (first | apply Kd.R_alloc | apply Kd.R_drewN | apply Kd.R_drew)); exact Kd.R_mono HO189.out (fun _ hk => hk.2)⟩, ⟨by repeat (first | (with_reducible first | exact HB.out | apply below_alloc | apply pw_below_drewN | apply below_drew1) | exact HB.out)⟩⟩
    case rest =>
     clear HC12
     try clear c1
     try clear p1
     try clear q1
     try clear hx1
     try clear qi1
     try clear p2
     try clear c3
     try clear c5
     try clear c5b0
     try clear c5b1
     try clear c6
     try clear c14
     try clear c15
     try clear c16
     try clear c17
     try clear c17b0
     try clear c17b1
     try clear c18
     try clear c18b0
     try clear c18b1
     try clear hx193_0
     try clear p193
     try clear p2
     try clear q193
     obtain ⟨kq, x11_11, rfl, HA, HJ11, HO_7, HO_9, HB⟩ := hcut
     cases kq with
     | zero => exact absurd HA.out (by simp [bilgelaw02_BitsTell.j1])
     | succ kj11 =>
      have H := HA.out
      clear HA
      simp only [bilgelaw02_BitsTell.j1] at H
      replace H := Option.bind_eq_some_iff.mp H
      obtain ⟨t194, A190, H⟩ := H
      replace H : ((bilgeref02_Pack.f kj11 l0).bind fun t197 => ((bilgeref01_Bytes.f kj11 t194 t197).bind fun t200 => (if t200 = true then ((bilgeref02_Same.f kj11 t182 t186).bind fun t201 => (if t201 = true then (if t183 = t187 then ((bits_Size.f a2).bind fun t202 => ((bilgeref02_Size.f a2).bind fun t203 => (if t202 = t203 then ((bits_Tidy.f l1 a2).bind fun t204 => ((bilgeref02_Tidy.f kj11 l1 a2).bind fun t205 => (if (t204 == t205) = true then ((bits_Ones.f kj11 l0).bind fun t206 => ((bilgeref02_Ones.f kj11 l0).bind fun t207 => (if t206 = t207 then ((bits_Flags.f kj11 l0).bind fun t208 => (if t208 = x11_11 then ((bilgelaw02_sure.f kj11).bind fun t209 => (some t209)) else (none))) else (none)))) else (none)))) else (none)))) else (none)) else (none))) else (none)))) = some r := H
      have A19 := Aside0.mk A190
      clear A190
      replace H := Option.bind_eq_some_iff.mp H
      obtain ⟨t197, A200, H⟩ := H
      replace H : ((bilgeref01_Bytes.f kj11 t194 t197).bind fun t200 => (if t200 = true then ((bilgeref02_Same.f kj11 t182 t186).bind fun t201 => (if t201 = true then (if t183 = t187 then ((bits_Size.f a2).bind fun t202 => ((bilgeref02_Size.f a2).bind fun t203 => (if t202 = t203 then ((bits_Tidy.f l1 a2).bind fun t204 => ((bilgeref02_Tidy.f kj11 l1 a2).bind fun t205 => (if (t204 == t205) = true then ((bits_Ones.f kj11 l0).bind fun t206 => ((bilgeref02_Ones.f kj11 l0).bind fun t207 => (if t206 = t207 then ((bits_Flags.f kj11 l0).bind fun t208 => (if t208 = x11_11 then ((bilgelaw02_sure.f kj11).bind fun t209 => (some t209)) else (none))) else (none)))) else (none)))) else (none)))) else (none)) else (none))) else (none))) = some r := H
      have A20 := Aside0.mk A200
      clear A200
      replace H := Option.bind_eq_some_iff.mp H
      obtain ⟨t200, A210, H⟩ := H
      replace H : (if t200 = true then ((bilgeref02_Same.f kj11 t182 t186).bind fun t201 => (if t201 = true then (if t183 = t187 then ((bits_Size.f a2).bind fun t202 => ((bilgeref02_Size.f a2).bind fun t203 => (if t202 = t203 then ((bits_Tidy.f l1 a2).bind fun t204 => ((bilgeref02_Tidy.f kj11 l1 a2).bind fun t205 => (if (t204 == t205) = true then ((bits_Ones.f kj11 l0).bind fun t206 => ((bilgeref02_Ones.f kj11 l0).bind fun t207 => (if t206 = t207 then ((bits_Flags.f kj11 l0).bind fun t208 => (if t208 = x11_11 then ((bilgelaw02_sure.f kj11).bind fun t209 => (some t209)) else (none))) else (none)))) else (none)))) else (none)))) else (none)) else (none))) else (none)) = some r := H
      have A21 := Aside0.mk A210
      clear A210
      by_cases c22 : t200 = true
      ·subst c22
       have H1 : ((bilgeref02_Same.f kj11 t182 t186).bind fun t201 => (if t201 = true then (if t183 = t187 then ((bits_Size.f a2).bind fun t202 => ((bilgeref02_Size.f a2).bind fun t203 => (if t202 = t203 then ((bits_Tidy.f l1 a2).bind fun t204 => ((bilgeref02_Tidy.f kj11 l1 a2).bind fun t205 => (if (t204 == t205) = true then ((bits_Ones.f kj11 l0).bind fun t206 => ((bilgeref02_Ones.f kj11 l0).bind fun t207 => (if t206 = t207 then ((bits_Flags.f kj11 l0).bind fun t208 => (if t208 = x11_11 then ((bilgelaw02_sure.f kj11).bind fun t209 => (some t209)) else (none))) else (none)))) else (none)))) else (none)))) else (none)) else (none))) = some r := by rw [if_pos rfl] at H; exact H
       clear H
       have H := H1
       clear H1
       replace H := Option.bind_eq_some_iff.mp H
       obtain ⟨t201, A230, H⟩ := H
       replace H : (if t201 = true then (if t183 = t187 then ((bits_Size.f a2).bind fun t202 => ((bilgeref02_Size.f a2).bind fun t203 => (if t202 = t203 then ((bits_Tidy.f l1 a2).bind fun t204 => ((bilgeref02_Tidy.f kj11 l1 a2).bind fun t205 => (if (t204 == t205) = true then ((bits_Ones.f kj11 l0).bind fun t206 => ((bilgeref02_Ones.f kj11 l0).bind fun t207 => (if t206 = t207 then ((bits_Flags.f kj11 l0).bind fun t208 => (if t208 = x11_11 then ((bilgelaw02_sure.f kj11).bind fun t209 => (some t209)) else (none))) else (none)))) else (none)))) else (none)))) else (none)) else (none)) = some r := H
       have A23 := Aside0.mk A230
       clear A230
       by_cases c24 : t201 = true
       ·subst c24
        have H1 : (if t183 = t187 then ((bits_Size.f a2).bind fun t202 => ((bilgeref02_Size.f a2).bind fun t203 => (if t202 = t203 then ((bits_Tidy.f l1 a2).bind fun t204 => ((bilgeref02_Tidy.f kj11 l1 a2).bind fun t205 => (if (t204 == t205) = true then ((bits_Ones.f kj11 l0).bind fun t206 => ((bilgeref02_Ones.f kj11 l0).bind fun t207 => (if t206 = t207 then ((bits_Flags.f kj11 l0).bind fun t208 => (if t208 = x11_11 then ((bilgelaw02_sure.f kj11).bind fun t209 => (some t209)) else (none))) else (none)))) else (none)))) else (none)))) else (none)) = some r := by rw [if_pos rfl] at H; exact H
        clear H
        have H := H1
        clear H1
        by_cases c25 : t183 = t187
        ·rw [if_pos c25] at H
         have c25b0 : (t183 == t187) = true := beq_iff_eq.mpr c25
         have c25b1 : (t183 != t187) = false := bne_eq_false_iff_eq.mpr c25
         clear c25
         replace H := Option.bind_eq_some_iff.mp H
         obtain ⟨t202, A260, H⟩ := H
         replace H : ((bilgeref02_Size.f a2).bind fun t203 => (if t202 = t203 then ((bits_Tidy.f l1 a2).bind fun t204 => ((bilgeref02_Tidy.f kj11 l1 a2).bind fun t205 => (if (t204 == t205) = true then ((bits_Ones.f kj11 l0).bind fun t206 => ((bilgeref02_Ones.f kj11 l0).bind fun t207 => (if t206 = t207 then ((bits_Flags.f kj11 l0).bind fun t208 => (if t208 = x11_11 then ((bilgelaw02_sure.f kj11).bind fun t209 => (some t209)) else (none))) else (none)))) else (none)))) else (none))) = some r := H
         have A26 := Aside0.mk A260
         clear A260
         replace H := Option.bind_eq_some_iff.mp H
         obtain ⟨t203, A270, H⟩ := H
         replace H : (if t202 = t203 then ((bits_Tidy.f l1 a2).bind fun t204 => ((bilgeref02_Tidy.f kj11 l1 a2).bind fun t205 => (if (t204 == t205) = true then ((bits_Ones.f kj11 l0).bind fun t206 => ((bilgeref02_Ones.f kj11 l0).bind fun t207 => (if t206 = t207 then ((bits_Flags.f kj11 l0).bind fun t208 => (if t208 = x11_11 then ((bilgelaw02_sure.f kj11).bind fun t209 => (some t209)) else (none))) else (none)))) else (none)))) else (none)) = some r := H
         have A27 := Aside0.mk A270
         clear A270
         by_cases c28 : t202 = t203
         ·rw [if_pos c28] at H
          have c28b0 : (t202 == t203) = true := beq_iff_eq.mpr c28
          have c28b1 : (t202 != t203) = false := bne_eq_false_iff_eq.mpr c28
          clear c28
          replace H := Option.bind_eq_some_iff.mp H
          obtain ⟨t204, A290, H⟩ := H
          replace H : ((bilgeref02_Tidy.f kj11 l1 a2).bind fun t205 => (if (t204 == t205) = true then ((bits_Ones.f kj11 l0).bind fun t206 => ((bilgeref02_Ones.f kj11 l0).bind fun t207 => (if t206 = t207 then ((bits_Flags.f kj11 l0).bind fun t208 => (if t208 = x11_11 then ((bilgelaw02_sure.f kj11).bind fun t209 => (some t209)) else (none))) else (none)))) else (none))) = some r := H
          have A29 := Aside0.mk A290
          clear A290
          replace H := Option.bind_eq_some_iff.mp H
          obtain ⟨t205, A300, H⟩ := H
          replace H : (if (t204 == t205) = true then ((bits_Ones.f kj11 l0).bind fun t206 => ((bilgeref02_Ones.f kj11 l0).bind fun t207 => (if t206 = t207 then ((bits_Flags.f kj11 l0).bind fun t208 => (if t208 = x11_11 then ((bilgelaw02_sure.f kj11).bind fun t209 => (some t209)) else (none))) else (none)))) else (none)) = some r := H
          have A30 := Aside0.mk A300
          clear A300
          by_cases c31 : (t204 == t205) = true
          ·rw [if_pos c31] at H
           have c31b0 : (t204 == t205) = true := c31
           (try (have c31b1 : decide (t204 = t205) = true := by simpa using c31))
           (try (have c31b2 : (t204 == t205) = true := by simpa using c31))
           clear c31
           replace H := Option.bind_eq_some_iff.mp H
           obtain ⟨t206, A320, H⟩ := H
           replace H : ((bilgeref02_Ones.f kj11 l0).bind fun t207 => (if t206 = t207 then ((bits_Flags.f kj11 l0).bind fun t208 => (if t208 = x11_11 then ((bilgelaw02_sure.f kj11).bind fun t209 => (some t209)) else (none))) else (none))) = some r := H
           have A32 := Aside0.mk A320
           clear A320
           replace H := Option.bind_eq_some_iff.mp H
           obtain ⟨t207, A330, H⟩ := H
           replace H : (if t206 = t207 then ((bits_Flags.f kj11 l0).bind fun t208 => (if t208 = x11_11 then ((bilgelaw02_sure.f kj11).bind fun t209 => (some t209)) else (none))) else (none)) = some r := H
           have A33 := Aside0.mk A330
           clear A330
           by_cases c34 : t206 = t207
           ·rw [if_pos c34] at H
            have c34b0 : (t206 == t207) = true := beq_iff_eq.mpr c34
            have c34b1 : (t206 != t207) = false := bne_eq_false_iff_eq.mpr c34
            clear c34
            replace H := Option.bind_eq_some_iff.mp H
            obtain ⟨t208, A350, H⟩ := H
            replace H : (if t208 = x11_11 then ((bilgelaw02_sure.f kj11).bind fun t209 => (some t209)) else (none)) = some r := H
            have A35 := Aside0.mk A350
            clear A350
            by_cases c36 : t208 = x11_11
            ·rw [if_pos c36] at H
             have c36b0 : (t208 == x11_11) = true := beq_iff_eq.mpr c36
             have c36b1 : (t208 != x11_11) = false := bne_eq_false_iff_eq.mpr c36
             clear c36
             replace H := Option.bind_eq_some_iff.mp H
             obtain ⟨t209, A370, H⟩ := H
             replace H : (some t209) = some r := H
             have A37 := Aside0.mk A370
             clear A370
             obtain rfl := Option.some.inj H
             go_wp2_with (first | ((with_reducible refine gate_callee (f := 19) rfl ?_); refine goesL_ (some 43) rfl rfl Try.func19 (by kernel_rfl) rfl #[.slice A0 l0.length c0] rfl (by (try simp only [List.map_toArray, List.map_cons, List.map_nil]); first | done | rfl | (simp only [List.length_drop, List.length_take]; rfl)) ?_; (with_reducible refine (bits_Pack.calls kj11 _ _ l0 t194 _ ?side1 ?side2 A19.out).mono ?_); (case side1 => repeat (first | exact (Kd.C_below HR0.out HB.out) | (with_reducible refine Kd.C_alloc ?_ _) | (with_reducible refine Kd.C_drewN ?_ _) | (with_reducible refine Kd.C_drew ?_))); (case side2 => exact HC0.out); rintro e w38 ⟨v195, rfl, ho0, hb⟩; refine ⟨_, rfl, ?_⟩; have n0_ := Aside0.mk (Kd.R_below (by (with_reducible repeat (first | apply Kd.R_alloc | apply Kd.R_drewN | apply Kd.R_drew)); exact HO_7.out) hb); have n1_ := Aside0.mk (Kd.R_below (by (with_reducible repeat (first | apply Kd.R_alloc | apply Kd.R_drewN | apply Kd.R_drew)); exact HO_9.out) hb); have n2_ := Aside0.mk (Kd.R_lower ho0 (below_size (by repeat (first | (with_reducible first | exact HB.out | apply below_alloc | apply pw_below_drewN | apply below_drew1) | exact HB.out)))); have n3_ := Aside0.mk (below_step (by repeat (first | (with_reducible first | exact HB.out | apply below_alloc | apply pw_below_drewN | apply below_drew1) | exact HB.out)) hb); clear HO_7; clear HO_9; clear HB; have HO_7 := n0_; have HO_9 := n1_; have HO196 := n2_; have HB := n3_; clear n0_ n1_ n2_ n3_; (try clear hb); (try clear hb2); (try clear hk); (try clear hi); (try clear ho0)) | ((with_reducible refine gate_callee (f := 17) rfl ?_); refine goesL_ (some 45) rfl rfl Try.func17 (by kernel_rfl) rfl #[.slice A0 l0.length c0] rfl (by (try simp only [List.map_toArray, List.map_cons, List.map_nil]); first | done | rfl | (simp only [List.length_drop, List.length_take]; rfl)) ?_; (with_reducible refine (bilgeref02_Pack.calls kj11 _ _ l0 t197 _ ?side1 ?side2 A20.out).mono ?_); (case side1 => repeat (first | exact (Kd.C_below HR0.out HB.out) | (with_reducible refine Kd.C_alloc ?_ _) | (with_reducible refine Kd.C_drewN ?_ _) | (with_reducible refine Kd.C_drew ?_))); (case side2 => exact HC0.out); rintro e w39 ⟨v198, rfl, ho0, hb⟩; refine ⟨_, rfl, ?_⟩; have n0_ := Aside0.mk (Kd.R_below (by (with_reducible repeat (first | apply Kd.R_alloc | apply Kd.R_drewN | apply Kd.R_drew)); exact HO_7.out) hb); have n1_ := Aside0.mk (Kd.R_below (by (with_reducible repeat (first | apply Kd.R_alloc | apply Kd.R_drewN | apply Kd.R_drew)); exact HO_9.out) hb); have n2_ := Aside0.mk (Kd.R_elder' (by (with_reducible repeat (first | apply Kd.R_alloc | apply Kd.R_drewN | apply Kd.R_drew)); exact HO196.out) (Kd.R_base ho0) hb); have n3_ := Aside0.mk (Kd.R_lower (Kd.R_new' ho0 (Kd.R_lt (by (with_reducible repeat (first | apply Kd.R_alloc | apply Kd.R_drewN | apply Kd.R_drew)); exact HO196.out))) (below_size (by repeat (first | (with_reducible first | exact HB.out | apply below_alloc | apply pw_below_drewN | apply below_drew1) | exact HB.out)))); have n4_ := Aside0.mk (below_step (by repeat (first | (with_reducible first | exact HB.out | apply below_alloc | apply pw_below_drewN | apply below_drew1) | exact HB.out)) hb); clear HO_7; clear HO_9; clear HO196; clear HB; have HO_7 := n0_; have HO_9 := n1_; have HO196 := n2_; have HO199 := n3_; have HB := n4_; clear n0_ n1_ n2_ n3_ n4_; (try clear hb); (try clear hb2); (try clear hk); (try clear hi); (try clear ho0); obtain ⟨Ao40, co40, eo40⟩ := Kd.R_slice HO196.out; subst eo40; obtain ⟨Ao41, co41, eo41⟩ := Kd.R_slice HO199.out; subst eo41) | ((with_reducible refine gate_callee (f := 18) rfl ?_); refine goesL_ (some 46) rfl rfl Try.func18 (by kernel_rfl) rfl #[.slice Ao40 t194.length co40, .slice Ao41 t197.length co41] rfl (by (try simp only [List.map_toArray, List.map_cons, List.map_nil]); first | done | rfl | (simp only [List.length_drop, List.length_take]; rfl)) ?_; (with_reducible refine (bilgeref01_Bytes.calls kj11 _ _ t194 _ _ t197 true _ ?side1 ?side2 ?side3 ?side4 A21.out).mono ?_); (case side1 => repeat (first | exact (Kd.R_reads' HO196.out).2.2 | (with_reducible refine Kd.C_alloc ?_ _) | (with_reducible refine Kd.C_drewN ?_ _) | (with_reducible refine Kd.C_drew ?_))); (case side2 => exact (Kd.R_reads' HO196.out).2.1); (case side3 => repeat (first | exact (Kd.R_reads' HO199.out).2.2 | (with_reducible refine Kd.C_alloc ?_ _) | (with_reducible refine Kd.C_drewN ?_ _) | (with_reducible refine Kd.C_drew ?_))); (case side4 => exact (Kd.R_reads' HO199.out).2.1); rintro e w' ⟨rfl, ⟨nd, rfl⟩⟩; refine ⟨_, rfl, ?_⟩; obtain ⟨Ao42, co42, eo42⟩ := Kd.R_slice HO_7.out; subst eo42; obtain ⟨Ao43, co43, eo43⟩ := Kd.R_slice HO_9.out; subst eo43) | (go_at_call 20; (with_reducible refine (bilgeref02_Same.calls kj11 _ _ t182 _ _ t186 true _ ?side1 ?side2 ?side3 ?side4 A23.out).mono ?_); (case side1 => repeat (first | exact (Kd.R_reads' HO_7.out).2.2 | (with_reducible refine Kd.C_alloc ?_ _) | (with_reducible refine Kd.C_drewN ?_ _) | (with_reducible refine Kd.C_drew ?_))); (case side2 => exact (Kd.R_reads' HO_7.out).2.1); (case side3 => repeat (first | exact (Kd.R_reads' HO_9.out).2.2 | (with_reducible refine Kd.C_alloc ?_ _) | (with_reducible refine Kd.C_drewN ?_ _) | (with_reducible refine Kd.C_drew ?_))); (case side4 => exact (Kd.R_reads' HO_9.out).2.1); rintro e w' ⟨rfl, ⟨nd, rfl⟩⟩) | (go_at_call 21; (with_reducible refine (bits_Size.calls a2 t202 _ A26.out).mono ?_); rintro e w' ⟨rfl, ⟨nd, rfl⟩⟩) | (go_at_call 22; (with_reducible refine (bilgeref02_Size.calls a2 t203 _ A27.out).mono ?_); rintro e w' ⟨rfl, ⟨nd, rfl⟩⟩) | (go_at_call 23; (with_reducible refine (bits_Tidy.calls _ _ l1 a2 t204 _ ?side1 ?side2 A29.out).mono ?_); (case side1 => repeat (first | exact (Kd.C_below HR1.out (by repeat (first | (with_reducible first | exact HB.out | apply below_alloc | apply pw_below_drewN | apply below_drew1) | exact HB.out))) | (with_reducible refine Kd.C_alloc ?_ _) | (with_reducible refine Kd.C_drewN ?_ _) | (with_reducible refine Kd.C_drew ?_))); (case side2 => exact HC1.out); rintro e w' ⟨rfl, ⟨nd, rfl⟩⟩) | (go_at_call 24; (with_reducible refine (bilgeref02_Tidy.calls kj11 _ _ l1 a2 t205 _ ?side1 ?side2 A30.out).mono ?_); (case side1 => repeat (first | exact (Kd.C_below HR1.out (by repeat (first | (with_reducible first | exact HB.out | apply below_alloc | apply pw_below_drewN | apply below_drew1) | exact HB.out))) | (with_reducible refine Kd.C_alloc ?_ _) | (with_reducible refine Kd.C_drewN ?_ _) | (with_reducible refine Kd.C_drew ?_))); (case side2 => exact HC1.out); rintro e w' ⟨rfl, ⟨nd, rfl⟩⟩) | (go_at_call 25; (with_reducible refine (bits_Ones.calls kj11 _ _ l0 t206 _ ?side1 ?side2 A32.out).mono ?_); (case side1 => repeat (first | exact (Kd.C_below HR0.out (by repeat (first | (with_reducible first | exact HB.out | apply below_alloc | apply pw_below_drewN | apply below_drew1) | exact HB.out))) | (with_reducible refine Kd.C_alloc ?_ _) | (with_reducible refine Kd.C_drewN ?_ _) | (with_reducible refine Kd.C_drew ?_))); (case side2 => exact HC0.out); rintro e w' ⟨rfl, ⟨nd, rfl⟩⟩) | (go_at_call 26; (with_reducible refine (bilgeref02_Ones.calls kj11 _ _ l0 t207 _ ?side1 ?side2 A33.out).mono ?_); (case side1 => repeat (first | exact (Kd.C_below HR0.out (by repeat (first | (with_reducible first | exact HB.out | apply below_alloc | apply pw_below_drewN | apply below_drew1) | exact HB.out))) | (with_reducible refine Kd.C_alloc ?_ _) | (with_reducible refine Kd.C_drewN ?_ _) | (with_reducible refine Kd.C_drew ?_))); (case side2 => exact HC0.out); rintro e w' ⟨rfl, ⟨nd, rfl⟩⟩) | (go_at_call 27; (with_reducible refine (bits_Flags.calls kj11 _ _ l0 t208 _ ?side1 ?side2 A35.out).mono ?_); (case side1 => repeat (first | exact (Kd.C_below HR0.out (by repeat (first | (with_reducible first | exact HB.out | apply below_alloc | apply pw_below_drewN | apply below_drew1) | exact HB.out))) | (with_reducible refine Kd.C_alloc ?_ _) | (with_reducible refine Kd.C_drewN ?_ _) | (with_reducible refine Kd.C_drew ?_))); (case side2 => exact HC0.out); rintro e w44 ⟨rfl, hb⟩; have n0_ := Aside0.mk (Kd.R_below (by (with_reducible repeat (first | apply Kd.R_alloc | apply Kd.R_drewN | apply Kd.R_drew)); exact HO_7.out) hb); have n1_ := Aside0.mk (Kd.R_below (by (with_reducible repeat (first | apply Kd.R_alloc | apply Kd.R_drewN | apply Kd.R_drew)); exact HO_9.out) hb); have n2_ := Aside0.mk (Kd.R_below (by (with_reducible repeat (first | apply Kd.R_alloc | apply Kd.R_drewN | apply Kd.R_drew)); exact HO196.out) hb); have n3_ := Aside0.mk (Kd.R_below (by (with_reducible repeat (first | apply Kd.R_alloc | apply Kd.R_drewN | apply Kd.R_drew)); exact HO199.out) hb); have n4_ := Aside0.mk (below_step (by repeat (first | (with_reducible first | exact HB.out | apply below_alloc | apply pw_below_drewN | apply below_drew1) | exact HB.out)) hb); clear HO_7; clear HO_9; clear HO196; clear HO199; clear HB; have HO_7 := n0_; have HO_9 := n1_; have HO196 := n2_; have HO199 := n3_; have HB := n4_; clear n0_ n1_ n2_ n3_ n4_; (try clear hb); (try clear hb2); (try clear hk); (try clear hi)) | (go_at_call 14; (with_reducible refine (bilgelaw02_sure.calls kj11  t209 _ A37.out).mono ?_); rintro e w45 ⟨rfl, hb⟩; have n0_ := Aside0.mk (Kd.R_below (by (with_reducible repeat (first | apply Kd.R_alloc | apply Kd.R_drewN | apply Kd.R_drew)); exact HO_7.out) hb); have n1_ := Aside0.mk (Kd.R_below (by (with_reducible repeat (first | apply Kd.R_alloc | apply Kd.R_drewN | apply Kd.R_drew)); exact HO_9.out) hb); have n2_ := Aside0.mk (Kd.R_below (by (with_reducible repeat (first | apply Kd.R_alloc | apply Kd.R_drewN | apply Kd.R_drew)); exact HO196.out) hb); have n3_ := Aside0.mk (Kd.R_below (by (with_reducible repeat (first | apply Kd.R_alloc | apply Kd.R_drewN | apply Kd.R_drew)); exact HO199.out) hb); have n4_ := Aside0.mk (below_step (by repeat (first | (with_reducible first | exact HB.out | apply below_alloc | apply pw_below_drewN | apply below_drew1) | exact HB.out)) hb); clear HO_7; clear HO_9; clear HO196; clear HO199; clear HB; have HO_7 := n0_; have HO_9 := n1_; have HO196 := n2_; have HO199 := n3_; have HB := n4_; clear n0_ n1_ n2_ n3_ n4_; (try clear hb); (try clear hb2); (try clear hk); (try clear hi)))
             go_ret
             exact ⟨by first | rfl | (simp [errW_none, errW_some] <;> rfl) | (simp [*, errW_none, errW_some] <;> rfl), by repeat (first | (with_reducible first | exact HB.out | apply below_alloc | apply pw_below_drewN | apply below_drew1) | exact HB.out)⟩
            ·rw [if_neg c36] at H
             exact absurd H (by simp)
           ·rw [if_neg c34] at H
            exact absurd H (by simp)
          ·rw [if_neg c31] at H
           exact absurd H (by simp)
         ·rw [if_neg c28] at H
          exact absurd H (by simp)
        ·rw [if_neg c25] at H
         exact absurd H (by simp)
       ·replace c24 := Bool.eq_false_iff.mpr c24
        subst c24
        have H1 : (none) = some r := by rw [if_neg (show ¬ (false = true) by decide)] at H; exact H
        clear H
        have H := H1
        clear H1
        exact absurd H (by simp)
      ·replace c22 := Bool.eq_false_iff.mpr c22
       subst c22
       have H1 : (none) = some r := by rw [if_neg (show ¬ (false = true) by decide)] at H; exact H
       clear H
       have H := H1
       clear H1
       exact absurd H (by simp)

/-- THE ONE PURE STATEMENT of bilgelaw02_BitsTell: yours. -/
def bilgelaw02_BitsTell.Pure : Prop := ∀ (x0 : List Bool) (x1 : List Int) (x2 : Int), (x0.length ≤ maxLen ∧ x0.length * 1 ≤ 140737488351232 ∧ ∀ y0 ∈ x0, True) → (x1.length ≤ maxLen ∧ x1.length * 1 ≤ 140737488351232 ∧ ∀ y0 ∈ x1, (Lit.int .u8 y0).wf = true) → (Lit.int .i64 x2).wf = true → ∃ k, bilgelaw02_BitsTell.f k x0 x1 x2 = some true

/-! ### bilgelaw02_BitsBack: function 4 -/
mutual
def bilgelaw02_BitsBack.j0 : Nat → List Bool → List Int → Int → Bool → Option (Bool)
 | 0, _, _, _, _ => none
 | k + 1, x0, x1, x2, x19 => if x19 = true then ((bilgelaw02_sure.f k).bind fun t210 => (some t210)) else ((bits_Pack.f k x0).bind fun t211 => ((bits_Unpack.f k t211 (x0.length : Int)).bind fun bt214 => (if bt214.2 = 0 then ((bilgeref02_Same.f k x0 bt214.1).bind fun t218 => (if t218 = true then ((bits_Tidy.f t211 (x0.length : Int)).bind fun t219 => (if t219 = true then ((bits_Size.f (x0.length : Int)).bind fun t220 => (bilgelaw02_BitsBack.j1 k x1 x2 ((t211.length : Int) != t220))) else (bilgelaw02_BitsBack.j1 k x1 x2 true))) else (bilgelaw02_BitsBack.j1 k x1 x2 true))) else (bilgelaw02_BitsBack.j1 k x1 x2 true))))
def bilgelaw02_BitsBack.j1 : Nat → List Int → Int → Bool → Option (Bool)
 | 0, _, _, _ => none
 | k + 1, x1, x2, x52 => if x52 = true then (none) else ((bits_Unpack.f k x1 x2).bind fun bt221 => (if bt221.2 = 0 then ((bits_Pack.f k bt221.1).bind fun t227 => ((bilgeref01_Bytes.f k t227 x1).bind fun t230 => ((bits_Tidy.f x1 x2).bind fun t231 => (if (t230 == t231) = true then (if (bt221.1.length : Int) = x2 then ((bits_Ones.f k bt221.1).bind fun t232 => (if t232 ≤ x2 then ((bilgelaw02_sure.f k).bind fun t233 => (some t233)) else (none))) else (none)) else (none))))) else (if (bt221.1.length : Int) = 0 then ((bits_Tidy.f x1 x2).bind fun t225 => (if t225 = true then (none) else ((bilgelaw02_sure.f k).bind fun t226 => (some t226)))) else (none))))
end
def bilgelaw02_BitsBack.f (k : Nat) (l0 : List Bool) (l1 : List Int) (a2 : Int) : Option (Bool) := if (l0.length : Int) > 2500 then (bilgelaw02_BitsBack.j0 k l0 l1 a2 true) else (bilgelaw02_BitsBack.j0 k l0 l1 a2 (decide ((l1.length : Int) > 400)))
theorem bilgelaw02_BitsBack.mono_l : ∀ k, (∀ y0 y1 y2 y3, LeO (bilgelaw02_BitsBack.j0 k y0 y1 y2 y3) (bilgelaw02_BitsBack.j0 (k + 1) y0 y1 y2 y3)) ∧ (∀ y0 y1 y2, LeO (bilgelaw02_BitsBack.j1 k y0 y1 y2) (bilgelaw02_BitsBack.j1 (k + 1) y0 y1 y2))
 | 0 => ⟨fun _ _ _ _ r h => by simp [bilgelaw02_BitsBack.j0] at h, fun _ _ _ r h => by simp [bilgelaw02_BitsBack.j1] at h⟩
 | k + 1 => by
  obtain ⟨ih0, ih1⟩ := bilgelaw02_BitsBack.mono_l k
  refine ⟨?_, ?_⟩
  ·intro y0 y1 y2 y3
   unfold bilgelaw02_BitsBack.j0
   repeat' first
   | (with_reducible exact ih0 _ _ _ _)
   | (with_reducible exact ih1 _ _ _)
   | (with_reducible exact bilgelaw02_sure.mono _)
   | (with_reducible exact bilgeref01_Bytes.mono _ _ _)
   | (with_reducible exact bilgeref02_Same.mono _ _ _)
   | (with_reducible exact bits_Ones.mono _ _)
   | (with_reducible exact bits_Pack.mono _ _)
   | (with_reducible exact bits_Unpack.mono _ _ _)
   | (with_reducible exact LeO.refl _)
   | (with_reducible exact LeO.none _)
   | (with_reducible refine LeO.ite ?_ ?_)
   | (with_reducible refine LeO.bind ?_ (fun _ => ?_))
   | exact ih0 _ _ _ _
   | exact ih1 _ _ _
   | exact bilgelaw02_sure.mono _
   | exact bilgeref01_Bytes.mono _ _ _
   | exact bilgeref02_Same.mono _ _ _
   | exact bits_Ones.mono _ _
   | exact bits_Pack.mono _ _
   | exact bits_Unpack.mono _ _ _
   | exact LeO.none _
   | refine LeO.ite ?_ ?_
   | refine LeO.bind ?_ (fun _ => ?_)
  ·intro y0 y1 y2
   unfold bilgelaw02_BitsBack.j1
   repeat' first
   | (with_reducible exact ih0 _ _ _ _)
   | (with_reducible exact ih1 _ _ _)
   | (with_reducible exact bilgelaw02_sure.mono _)
   | (with_reducible exact bilgeref01_Bytes.mono _ _ _)
   | (with_reducible exact bilgeref02_Same.mono _ _ _)
   | (with_reducible exact bits_Ones.mono _ _)
   | (with_reducible exact bits_Pack.mono _ _)
   | (with_reducible exact bits_Unpack.mono _ _ _)
   | (with_reducible exact LeO.refl _)
   | (with_reducible exact LeO.none _)
   | (with_reducible refine LeO.ite ?_ ?_)
   | (with_reducible refine LeO.bind ?_ (fun _ => ?_))
   | exact ih0 _ _ _ _
   | exact ih1 _ _ _
   | exact bilgelaw02_sure.mono _
   | exact bilgeref01_Bytes.mono _ _ _
   | exact bilgeref02_Same.mono _ _ _
   | exact bits_Ones.mono _ _
   | exact bits_Pack.mono _ _
   | exact bits_Unpack.mono _ _ _
   | exact LeO.none _
   | refine LeO.ite ?_ ?_
   | refine LeO.bind ?_ (fun _ => ?_)
theorem bilgelaw02_BitsBack.mono : ∀ a0 a1 a2 k, LeO (bilgelaw02_BitsBack.f k a0 a1 a2) (bilgelaw02_BitsBack.f (k + 1) a0 a1 a2) := by
 intro a0 a1 a2 k
 obtain ⟨ih0, ih1⟩ := bilgelaw02_BitsBack.mono_l k
 unfold bilgelaw02_BitsBack.f
 repeat' first
   | (with_reducible exact ih0 _ _ _ _)
   | (with_reducible exact ih1 _ _ _)
   | (with_reducible exact bilgelaw02_sure.mono _)
   | (with_reducible exact bilgeref01_Bytes.mono _ _ _)
   | (with_reducible exact bilgeref02_Same.mono _ _ _)
   | (with_reducible exact bits_Ones.mono _ _)
   | (with_reducible exact bits_Pack.mono _ _)
   | (with_reducible exact bits_Unpack.mono _ _ _)
   | (with_reducible exact LeO.refl _)
   | (with_reducible exact LeO.none _)
   | (with_reducible refine LeO.ite ?_ ?_)
   | (with_reducible refine LeO.bind ?_ (fun _ => ?_))
   | exact ih0 _ _ _ _
   | exact ih1 _ _ _
   | exact bilgelaw02_sure.mono _
   | exact bilgeref01_Bytes.mono _ _ _
   | exact bilgeref02_Same.mono _ _ _
   | exact bits_Ones.mono _ _
   | exact bits_Pack.mono _ _
   | exact bits_Unpack.mono _ _ _
   | exact LeO.none _
   | refine LeO.ite ?_ ?_
   | refine LeO.bind ?_ (fun _ => ?_)
set_option maxHeartbeats 8000000 in
set_option maxRecDepth 100000 in
theorem bilgelaw02_BitsBack.calls (k : Nat) (A0 : Option Addr) (c0 : Nat) (l0 : List Bool) (A1 : Option Addr) (c1 : Nat) (l1 : List Int) (a2 : Int) (r : Bool) (w : World) (hr0 : Kd.C Kd.bool w A0 l0.length l0) (hc0 : l0.length ≤ c0) (hr1 : Kd.C (Kd.int .u8) w A1 l1.length l1) (hc1 : l1.length ≤ c1) (h : bilgelaw02_BitsBack.f k l0 l1 a2 = some r) :
  Calls Try.prog 4 #[.slice A0 l0.length c0, .slice A1 l1.length c1, .int .i64 a2] w fun e w' => e = .returned (.bool r) ∧ Below w.heap.size w w' := by
 have HR0 := Aside0.mk hr0
 have HC0 := Aside0.mk hc0
 clear hr0 hc0
 have HR1 := Aside0.mk hr1
 have HC1 := Aside0.mk hc1
 clear hr1 hc1
 have HB := Aside0.mk (Below.refl w.heap.size w)
 have H : (if (l0.length : Int) > 2500 then (bilgelaw02_BitsBack.j0 k l0 l1 a2 true) else (bilgelaw02_BitsBack.j0 k l0 l1 a2 (decide ((l1.length : Int) > 400)))) = some r := h
 clear h
 have HC4 := Aside0.mk H
 clear H
 go_enter Try.func4, Try.ntmps4
 go_upto_region 1 with (fail)
 go_cut [19] (fun v19 wc => ∃ (kq : Nat) (x19_3 : Bool), v19 = .bool x19_3 ∧ Aside0 (bilgelaw02_BitsBack.j0 kq l0 l1 a2 x19_3 = some r) ∧ Aside0 (kq ≤ k) ∧ Aside0 (Below w.heap.size w wc))
 case first =>
  have H := HC4.out
  clear HC4
  by_cases c5 : (l0.length : Int) > 2500
  ·rw [if_pos c5] at H
   have c5b0 : decide (2500 < (l0.length : Int)) = true := decide_eq_true c5
   have c5b1 : decide (2500 < l0.length) = true := decide_eq_true (by omega)
   clear c5
   (first | rw [c5b0] | (simp only [i64_w, i32_w]; rw [c5b0]) | skip)
   have H' := Aside0.mk H
   clear H
   go_wp2
   all_goals try (first | exact absurd (of_decide_eq_true c5b0) (by assumption) | exact absurd (of_decide_eq_true c5b1) (by assumption))
   go_meet
   case rel => exact ⟨_, (true), (by first | rfl | (simp; done) | (simp [*]; done)), H', ⟨by first | omega | exact Nat.le_refl _⟩, ⟨by repeat (first | (with_reducible first | exact HB.out | apply below_alloc | apply pw_below_drewN | apply below_drew1) | exact HB.out)⟩⟩
  ·rw [if_neg c5] at H
   have c5b0 : decide (2500 < (l0.length : Int)) = false := decide_eq_false c5
   have c5b1 : decide (2500 < l0.length) = false := decide_eq_false (by omega)
   clear c5
   (first | rw [c5b0] | (simp only [i64_w, i32_w]; rw [c5b0]) | skip)
   have H' := Aside0.mk H
   clear H
   go_wp2
   all_goals try (first | exact absurd (by assumption) (of_decide_eq_false c5b0) | exact absurd (by assumption) (of_decide_eq_false c5b1))
   go_meet
   case rel => exact ⟨_, (decide ((l1.length : Int) > 400)), (by first | rfl | (simp; done) | (simp [*]; done)), H', ⟨by first | omega | exact Nat.le_refl _⟩, ⟨by repeat (first | (with_reducible first | exact HB.out | apply below_alloc | apply pw_below_drewN | apply below_drew1) | exact HB.out)⟩⟩
 case rest =>
  clear HC4
  try clear c1
  try clear p2
  try clear c4
  try clear c5
  try clear c5b0
  try clear c5b1
  obtain ⟨kq, x19_3, rfl, HA, HJ3, HB⟩ := hcut
  cases kq with
  | zero => exact absurd HA.out (by simp [bilgelaw02_BitsBack.j0])
  | succ kj3 =>
   have H := HA.out
   clear HA
   simp only [bilgelaw02_BitsBack.j0] at H
   by_cases c6 : x19_3 = true
   ·subst c6
    have H1 : ((bilgelaw02_sure.f kj3).bind fun t210 => (some t210)) = some r := by rw [if_pos rfl] at H; exact H
    clear H
    have H := H1
    clear H1
    replace H := Option.bind_eq_some_iff.mp H
    obtain ⟨t210, A70, H⟩ := H
    replace H : (some t210) = some r := H
    have A7 := Aside0.mk A70
    clear A70
    obtain rfl := Option.some.inj H
    go_wp2_with (first | ((with_reducible refine gate_callee (f := 14) rfl ?_); refine goesL_ (some 20) rfl rfl Try.func14 (by kernel_rfl) rfl #[] rfl (by (try simp only [List.map_toArray, List.map_cons, List.map_nil]); first | done | rfl | (simp only [List.length_drop, List.length_take]; rfl)) ?_; (with_reducible refine (bilgelaw02_sure.calls kj3  t210 _ A7.out).mono ?_); rintro e w8 ⟨rfl, hb⟩; refine ⟨_, rfl, ?_⟩; have n0_ := Aside0.mk (below_step (by repeat (first | (with_reducible first | exact HB.out | apply below_alloc | apply pw_below_drewN | apply below_drew1) | exact HB.out)) hb); clear HB; have HB := n0_; clear n0_; (try clear hb); (try clear hb2); (try clear hk); (try clear hi)))
    go_ret
    exact ⟨by first | rfl | (simp [errW_none, errW_some] <;> rfl) | (simp [*, errW_none, errW_some] <;> rfl), by repeat (first | (with_reducible first | exact HB.out | apply below_alloc | apply pw_below_drewN | apply below_drew1) | exact HB.out)⟩
   ·replace c6 := Bool.eq_false_iff.mpr c6
    subst c6
    have H1 : ((bits_Pack.f kj3 l0).bind fun t211 => ((bits_Unpack.f kj3 t211 (l0.length : Int)).bind fun bt214 => (if bt214.2 = 0 then ((bilgeref02_Same.f kj3 l0 bt214.1).bind fun t218 => (if t218 = true then ((bits_Tidy.f t211 (l0.length : Int)).bind fun t219 => (if t219 = true then ((bits_Size.f (l0.length : Int)).bind fun t220 => (bilgelaw02_BitsBack.j1 kj3 l1 a2 ((t211.length : Int) != t220))) else (bilgelaw02_BitsBack.j1 kj3 l1 a2 true))) else (bilgelaw02_BitsBack.j1 kj3 l1 a2 true))) else (bilgelaw02_BitsBack.j1 kj3 l1 a2 true)))) = some r := by rw [if_neg (show ¬ (false = true) by decide)] at H; exact H
    clear H
    have H := H1
    clear H1
    replace H := Option.bind_eq_some_iff.mp H
    obtain ⟨t211, A90, H⟩ := H
    replace H : ((bits_Unpack.f kj3 t211 (l0.length : Int)).bind fun bt214 => (if bt214.2 = 0 then ((bilgeref02_Same.f kj3 l0 bt214.1).bind fun t218 => (if t218 = true then ((bits_Tidy.f t211 (l0.length : Int)).bind fun t219 => (if t219 = true then ((bits_Size.f (l0.length : Int)).bind fun t220 => (bilgelaw02_BitsBack.j1 kj3 l1 a2 ((t211.length : Int) != t220))) else (bilgelaw02_BitsBack.j1 kj3 l1 a2 true))) else (bilgelaw02_BitsBack.j1 kj3 l1 a2 true))) else (bilgelaw02_BitsBack.j1 kj3 l1 a2 true))) = some r := H
    have A9 := Aside0.mk A90
    clear A90
    replace H := Option.bind_eq_some_iff.mp H
    obtain ⟨⟨t214, t215⟩, A100, H⟩ := H
    replace H : (if t215 = 0 then ((bilgeref02_Same.f kj3 l0 t214).bind fun t218 => (if t218 = true then ((bits_Tidy.f t211 (l0.length : Int)).bind fun t219 => (if t219 = true then ((bits_Size.f (l0.length : Int)).bind fun t220 => (bilgelaw02_BitsBack.j1 kj3 l1 a2 ((t211.length : Int) != t220))) else (bilgelaw02_BitsBack.j1 kj3 l1 a2 true))) else (bilgelaw02_BitsBack.j1 kj3 l1 a2 true))) else (bilgelaw02_BitsBack.j1 kj3 l1 a2 true)) = some r := H
    have A10 := Aside0.mk A100
    clear A100
    have HC11 := Aside0.mk H
    clear H
    go_upto_region 5 with (first | ((with_reducible refine gate_callee (f := 19) rfl ?_); refine goesL_ (some 22) rfl rfl Try.func19 (by kernel_rfl) rfl #[.slice A0 l0.length c0] rfl (by (try simp only [List.map_toArray, List.map_cons, List.map_nil]); first | done | rfl | (simp only [List.length_drop, List.length_take]; rfl)) ?_; (with_reducible refine (bits_Pack.calls kj3 _ _ l0 t211 _ ?side1 ?side2 A9.out).mono ?_); (case side1 => repeat (first | exact (Kd.C_below HR0.out HB.out) | (with_reducible refine Kd.C_alloc ?_ _) | (with_reducible refine Kd.C_drewN ?_ _) | (with_reducible refine Kd.C_drew ?_))); (case side2 => exact HC0.out); rintro e w12 ⟨v212, rfl, ho0, hb⟩; refine ⟨_, rfl, ?_⟩; have n0_ := Aside0.mk (Kd.R_lower ho0 (below_size (by repeat (first | (with_reducible first | exact HB.out | apply below_alloc | apply pw_below_drewN | apply below_drew1) | exact HB.out)))); have n1_ := Aside0.mk (below_step (by repeat (first | (with_reducible first | exact HB.out | apply below_alloc | apply pw_below_drewN | apply below_drew1) | exact HB.out)) hb); clear HB; have HO213 := n0_; have HB := n1_; clear n0_ n1_; (try clear hb); (try clear hb2); (try clear hk); (try clear hi); (try clear ho0); obtain ⟨Ao13, co13, eo13⟩ := Kd.R_slice HO213.out; subst eo13) | ((with_reducible refine gate_callee (f := 15) rfl ?_); refine goesL_ (some 27) rfl rfl Try.func15 (by kernel_rfl) rfl #[.slice Ao13 t211.length co13, .int .i64 (l0.length : Int)] rfl (by (try simp only [List.map_toArray, List.map_cons, List.map_nil]); first | done | rfl | (simp only [List.length_drop, List.length_take]; rfl)) ?_; (with_reducible refine (bits_Unpack.calls kj3 _ _ t211 (l0.length : Int) t214 t215 _ ?side1 ?side2 A10.out).mono ?_); (case side1 => repeat (first | exact (Kd.R_reads' HO213.out).2.2 | (with_reducible refine Kd.C_alloc ?_ _) | (with_reducible refine Kd.C_drewN ?_ _) | (with_reducible refine Kd.C_drew ?_))); (case side2 => exact (Kd.R_reads' HO213.out).2.1); rintro e w14 ⟨v216, rfl, ho0, hb⟩; refine ⟨_, rfl, ?_⟩; have n0_ := Aside0.mk (Kd.R_below (by (with_reducible repeat (first | apply Kd.R_alloc | apply Kd.R_drewN | apply Kd.R_drew)); exact HO213.out) hb); have n1_ := Aside0.mk (Kd.R_lower ho0 (below_size (by repeat (first | (with_reducible first | exact HB.out | apply below_alloc | apply pw_below_drewN | apply below_drew1) | exact HB.out)))); have n2_ := Aside0.mk (below_step (by repeat (first | (with_reducible first | exact HB.out | apply below_alloc | apply pw_below_drewN | apply below_drew1) | exact HB.out)) hb); clear HO213; clear HB; have HO213 := n0_; have HO217 := n1_; have HB := n2_; clear n0_ n1_ n2_; (try clear hb); (try clear hb2); (try clear hk); (try clear hi); (try clear ho0)))
    (try simp only [Act.put, List.setIfInBounds_toArray, List.set_cons_zero, List.set_cons_succ])
    go_cut [52] (fun v52 wc => ∃ (kq : Nat) (x52_10 : Bool), v52 = .bool x52_10 ∧ Aside0 (bilgelaw02_BitsBack.j1 kq l1 a2 x52_10 = some r) ∧ Aside0 (kq ≤ kj3) ∧ Aside0 (Below w.heap.size w wc))
    case first =>
     have H := HC11.out
     clear HC11
     by_cases c15 : t215 = 0
     ·rw [if_pos c15] at H
      have c15b0 : (t215 == 0) = true := beq_iff_eq.mpr c15
      have c15b1 : (t215 != 0) = false := bne_eq_false_iff_eq.mpr c15
      clear c15
      (first | rw [c15b0] | (simp only [i64_w, i32_w]; rw [c15b0]) | skip)
      replace H := Option.bind_eq_some_iff.mp H
      obtain ⟨t218, A160, H⟩ := H
      replace H : (if t218 = true then ((bits_Tidy.f t211 (l0.length : Int)).bind fun t219 => (if t219 = true then ((bits_Size.f (l0.length : Int)).bind fun t220 => (bilgelaw02_BitsBack.j1 kj3 l1 a2 ((t211.length : Int) != t220))) else (bilgelaw02_BitsBack.j1 kj3 l1 a2 true))) else (bilgelaw02_BitsBack.j1 kj3 l1 a2 true)) = some r := H
      have A16 := Aside0.mk A160
      clear A160
      by_cases c17 : t218 = true
      ·subst c17
       have H1 : ((bits_Tidy.f t211 (l0.length : Int)).bind fun t219 => (if t219 = true then ((bits_Size.f (l0.length : Int)).bind fun t220 => (bilgelaw02_BitsBack.j1 kj3 l1 a2 ((t211.length : Int) != t220))) else (bilgelaw02_BitsBack.j1 kj3 l1 a2 true))) = some r := by rw [if_pos rfl] at H; exact H
       clear H
       have H := H1
       clear H1
       replace H := Option.bind_eq_some_iff.mp H
       obtain ⟨t219, A180, H⟩ := H
       replace H : (if t219 = true then ((bits_Size.f (l0.length : Int)).bind fun t220 => (bilgelaw02_BitsBack.j1 kj3 l1 a2 ((t211.length : Int) != t220))) else (bilgelaw02_BitsBack.j1 kj3 l1 a2 true)) = some r := H
       have A18 := Aside0.mk A180
       clear A180
       by_cases c19 : t219 = true
       ·subst c19
        have H1 : ((bits_Size.f (l0.length : Int)).bind fun t220 => (bilgelaw02_BitsBack.j1 kj3 l1 a2 ((t211.length : Int) != t220))) = some r := by rw [if_pos rfl] at H; exact H
        clear H
        have H := H1
        clear H1
        replace H := Option.bind_eq_some_iff.mp H
        obtain ⟨t220, A200, H⟩ := H
        replace H : (bilgelaw02_BitsBack.j1 kj3 l1 a2 ((t211.length : Int) != t220)) = some r := H
        have A20 := Aside0.mk A200
        clear A200
        have H' := Aside0.mk H
        clear H
        obtain ⟨Ao21, co21, eo21⟩ := Kd.R_slice HO217.out
        subst eo21
        go_wp2_with (first | (go_at_call 20; (with_reducible refine (bilgeref02_Same.calls kj3 _ _ l0 _ _ t214 true _ ?side1 ?side2 ?side3 ?side4 A16.out).mono ?_); (case side1 => repeat (first | exact (Kd.C_below HR0.out HB.out) | (with_reducible refine Kd.C_alloc ?_ _) | (with_reducible refine Kd.C_drewN ?_ _) | (with_reducible refine Kd.C_drew ?_))); (case side2 => exact HC0.out); (case side3 => repeat (first | exact (Kd.R_reads' HO217.out).2.2 | (with_reducible refine Kd.C_alloc ?_ _) | (with_reducible refine Kd.C_drewN ?_ _) | (with_reducible refine Kd.C_drew ?_))); (case side4 => exact (Kd.R_reads' HO217.out).2.1); rintro e w' ⟨rfl, ⟨nd, rfl⟩⟩) | (go_at_call 23; (with_reducible refine (bits_Tidy.calls _ _ t211 (l0.length : Int) true _ ?side1 ?side2 A18.out).mono ?_); (case side1 => repeat (first | exact (Kd.R_reads' HO213.out).2.2 | (with_reducible refine Kd.C_alloc ?_ _) | (with_reducible refine Kd.C_drewN ?_ _) | (with_reducible refine Kd.C_drew ?_))); (case side2 => exact (Kd.R_reads' HO213.out).2.1); rintro e w' ⟨rfl, ⟨nd, rfl⟩⟩) | (go_at_call 21; (with_reducible refine (bits_Size.calls (l0.length : Int) t220 _ A20.out).mono ?_); rintro e w' ⟨rfl, ⟨nd, rfl⟩⟩))
        go_meet
        case rel => exact ⟨_, (((t211.length : Int) != t220)), (by first | rfl | (simp; done) | (simp [*]; done)), H', ⟨by have := HJ3.out; first | omega | exact Nat.le_refl _⟩, ⟨by repeat (first | (with_reducible first | exact HB.out | apply below_alloc | apply pw_below_drewN | apply below_drew1) | exact HB.out)⟩⟩
       ·replace c19 := Bool.eq_false_iff.mpr c19
        subst c19
        have H1 : (bilgelaw02_BitsBack.j1 kj3 l1 a2 true) = some r := by rw [if_neg (show ¬ (false = true) by decide)] at H; exact H
        clear H
        have H := H1
        clear H1
        have H' := Aside0.mk H
        clear H
        obtain ⟨Ao22, co22, eo22⟩ := Kd.R_slice HO217.out
        subst eo22
        go_wp2_with (first | (go_at_call 20; (with_reducible refine (bilgeref02_Same.calls kj3 _ _ l0 _ _ t214 true _ ?side1 ?side2 ?side3 ?side4 A16.out).mono ?_); (case side1 => repeat (first | exact (Kd.C_below HR0.out HB.out) | (with_reducible refine Kd.C_alloc ?_ _) | (with_reducible refine Kd.C_drewN ?_ _) | (with_reducible refine Kd.C_drew ?_))); (case side2 => exact HC0.out); (case side3 => repeat (first | exact (Kd.R_reads' HO217.out).2.2 | (with_reducible refine Kd.C_alloc ?_ _) | (with_reducible refine Kd.C_drewN ?_ _) | (with_reducible refine Kd.C_drew ?_))); (case side4 => exact (Kd.R_reads' HO217.out).2.1); rintro e w' ⟨rfl, ⟨nd, rfl⟩⟩) | (go_at_call 23; (with_reducible refine (bits_Tidy.calls _ _ t211 (l0.length : Int) false _ ?side1 ?side2 A18.out).mono ?_); (case side1 => repeat (first | exact (Kd.R_reads' HO213.out).2.2 | (with_reducible refine Kd.C_alloc ?_ _) | (with_reducible refine Kd.C_drewN ?_ _) | (with_reducible refine Kd.C_drew ?_))); (case side2 => exact (Kd.R_reads' HO213.out).2.1); rintro e w' ⟨rfl, ⟨nd, rfl⟩⟩))
        go_meet
        case rel => exact ⟨_, (true), (by first | rfl | (simp; done) | (simp [*]; done)), H', ⟨by have := HJ3.out; first | omega | exact Nat.le_refl _⟩, ⟨by repeat (first | (with_reducible first | exact HB.out | apply below_alloc | apply pw_below_drewN | apply below_drew1) | exact HB.out)⟩⟩
      ·replace c17 := Bool.eq_false_iff.mpr c17
       subst c17
       have H1 : (bilgelaw02_BitsBack.j1 kj3 l1 a2 true) = some r := by rw [if_neg (show ¬ (false = true) by decide)] at H; exact H
       clear H
       have H := H1
       clear H1
       have H' := Aside0.mk H
       clear H
       obtain ⟨Ao23, co23, eo23⟩ := Kd.R_slice HO217.out
       subst eo23
       go_wp2_with (first | (go_at_call 20; (with_reducible refine (bilgeref02_Same.calls kj3 _ _ l0 _ _ t214 false _ ?side1 ?side2 ?side3 ?side4 A16.out).mono ?_); (case side1 => repeat (first | exact (Kd.C_below HR0.out HB.out) | (with_reducible refine Kd.C_alloc ?_ _) | (with_reducible refine Kd.C_drewN ?_ _) | (with_reducible refine Kd.C_drew ?_))); (case side2 => exact HC0.out); (case side3 => repeat (first | exact (Kd.R_reads' HO217.out).2.2 | (with_reducible refine Kd.C_alloc ?_ _) | (with_reducible refine Kd.C_drewN ?_ _) | (with_reducible refine Kd.C_drew ?_))); (case side4 => exact (Kd.R_reads' HO217.out).2.1); rintro e w' ⟨rfl, ⟨nd, rfl⟩⟩))
       go_meet
       case rel => exact ⟨_, (true), (by first | rfl | (simp; done) | (simp [*]; done)), H', ⟨by have := HJ3.out; first | omega | exact Nat.le_refl _⟩, ⟨by repeat (first | (with_reducible first | exact HB.out | apply below_alloc | apply pw_below_drewN | apply below_drew1) | exact HB.out)⟩⟩
     ·rw [if_neg c15] at H
      have c15b0 : (t215 == 0) = false := beq_eq_false_iff_ne.mpr c15
      have c15b1 : (t215 != 0) = true := bne_iff_ne.mpr c15
      (first | rw [c15b0] | (simp only [i64_w, i32_w]; rw [c15b0]) | skip)
      have H' := Aside0.mk H
      clear H
      go_wp2
      go_meet
      case rel => exact ⟨_, (true), (by first | rfl | (simp; done) | (simp [*]; done)), H', ⟨by have := HJ3.out; first | omega | exact Nat.le_refl _⟩, ⟨by repeat (first | (with_reducible first | exact HB.out | apply below_alloc | apply pw_below_drewN | apply below_drew1) | exact HB.out)⟩⟩
    case rest =>
     clear HC11
     try clear c1
     try clear p2
     try clear c4
     try clear c5
     try clear c5b0
     try clear c5b1
     try clear c6
     try clear c14
     try clear c15
     try clear c15b0
     try clear c15b1
     try clear c17
     try clear c19
     try clear p2
     obtain ⟨kq, x52_10, rfl, HA, HJ10, HB⟩ := hcut
     cases kq with
     | zero => exact absurd HA.out (by simp [bilgelaw02_BitsBack.j1])
     | succ kj10 =>
      have H := HA.out
      clear HA
      simp only [bilgelaw02_BitsBack.j1] at H
      by_cases c24 : x52_10 = true
      ·subst c24
       have H1 : (none) = some r := by rw [if_pos rfl] at H; exact H
       clear H
       have H := H1
       clear H1
       exact absurd H (by simp)
      ·replace c24 := Bool.eq_false_iff.mpr c24
       subst c24
       have H1 : ((bits_Unpack.f kj10 l1 a2).bind fun bt221 => (if bt221.2 = 0 then ((bits_Pack.f kj10 bt221.1).bind fun t227 => ((bilgeref01_Bytes.f kj10 t227 l1).bind fun t230 => ((bits_Tidy.f l1 a2).bind fun t231 => (if (t230 == t231) = true then (if (bt221.1.length : Int) = a2 then ((bits_Ones.f kj10 bt221.1).bind fun t232 => (if t232 ≤ a2 then ((bilgelaw02_sure.f kj10).bind fun t233 => (some t233)) else (none))) else (none)) else (none))))) else (if (bt221.1.length : Int) = 0 then ((bits_Tidy.f l1 a2).bind fun t225 => (if t225 = true then (none) else ((bilgelaw02_sure.f kj10).bind fun t226 => (some t226)))) else (none)))) = some r := by rw [if_neg (show ¬ (false = true) by decide)] at H; exact H
       clear H
       have H := H1
       clear H1
       replace H := Option.bind_eq_some_iff.mp H
       obtain ⟨⟨t221, t222⟩, A250, H⟩ := H
       replace H : (if t222 = 0 then ((bits_Pack.f kj10 t221).bind fun t227 => ((bilgeref01_Bytes.f kj10 t227 l1).bind fun t230 => ((bits_Tidy.f l1 a2).bind fun t231 => (if (t230 == t231) = true then (if (t221.length : Int) = a2 then ((bits_Ones.f kj10 t221).bind fun t232 => (if t232 ≤ a2 then ((bilgelaw02_sure.f kj10).bind fun t233 => (some t233)) else (none))) else (none)) else (none))))) else (if (t221.length : Int) = 0 then ((bits_Tidy.f l1 a2).bind fun t225 => (if t225 = true then (none) else ((bilgelaw02_sure.f kj10).bind fun t226 => (some t226)))) else (none))) = some r := H
       have A25 := Aside0.mk A250
       clear A250
       by_cases c26 : t222 = 0
       ·rw [if_pos c26] at H
        have c26b0 : (t222 == 0) = true := beq_iff_eq.mpr c26
        have c26b1 : (t222 != 0) = false := bne_eq_false_iff_eq.mpr c26
        clear c26
        replace H := Option.bind_eq_some_iff.mp H
        obtain ⟨t227, A270, H⟩ := H
        replace H : ((bilgeref01_Bytes.f kj10 t227 l1).bind fun t230 => ((bits_Tidy.f l1 a2).bind fun t231 => (if (t230 == t231) = true then (if (t221.length : Int) = a2 then ((bits_Ones.f kj10 t221).bind fun t232 => (if t232 ≤ a2 then ((bilgelaw02_sure.f kj10).bind fun t233 => (some t233)) else (none))) else (none)) else (none)))) = some r := H
        have A27 := Aside0.mk A270
        clear A270
        replace H := Option.bind_eq_some_iff.mp H
        obtain ⟨t230, A280, H⟩ := H
        replace H : ((bits_Tidy.f l1 a2).bind fun t231 => (if (t230 == t231) = true then (if (t221.length : Int) = a2 then ((bits_Ones.f kj10 t221).bind fun t232 => (if t232 ≤ a2 then ((bilgelaw02_sure.f kj10).bind fun t233 => (some t233)) else (none))) else (none)) else (none))) = some r := H
        have A28 := Aside0.mk A280
        clear A280
        replace H := Option.bind_eq_some_iff.mp H
        obtain ⟨t231, A290, H⟩ := H
        replace H : (if (t230 == t231) = true then (if (t221.length : Int) = a2 then ((bits_Ones.f kj10 t221).bind fun t232 => (if t232 ≤ a2 then ((bilgelaw02_sure.f kj10).bind fun t233 => (some t233)) else (none))) else (none)) else (none)) = some r := H
        have A29 := Aside0.mk A290
        clear A290
        by_cases c30 : (t230 == t231) = true
        ·rw [if_pos c30] at H
         have c30b0 : (t230 == t231) = true := c30
         (try (have c30b1 : decide (t230 = t231) = true := by simpa using c30))
         (try (have c30b2 : (t230 == t231) = true := by simpa using c30))
         clear c30
         by_cases c31 : (t221.length : Int) = a2
         ·rw [if_pos c31] at H
          have c31b0 : ((t221.length : Int) == a2) = true := beq_iff_eq.mpr c31
          have c31b1 : ((t221.length : Int) != a2) = false := bne_eq_false_iff_eq.mpr c31
          clear c31
          replace H := Option.bind_eq_some_iff.mp H
          obtain ⟨t232, A320, H⟩ := H
          replace H : (if t232 ≤ a2 then ((bilgelaw02_sure.f kj10).bind fun t233 => (some t233)) else (none)) = some r := H
          have A32 := Aside0.mk A320
          clear A320
          by_cases c33 : t232 ≤ a2
          ·rw [if_pos c33] at H
           have c33b0 : decide (t232 ≤ a2) = true := decide_eq_true c33
           clear c33
           replace H := Option.bind_eq_some_iff.mp H
           obtain ⟨t233, A340, H⟩ := H
           replace H : (some t233) = some r := H
           have A34 := Aside0.mk A340
           clear A340
           obtain rfl := Option.some.inj H
           go_wp2_with (first | ((with_reducible refine gate_callee (f := 15) rfl ?_); refine goesL_ (some 56) rfl rfl Try.func15 (by kernel_rfl) rfl #[.slice A1 l1.length c1, .int .i64 a2] rfl (by (try simp only [List.map_toArray, List.map_cons, List.map_nil]); first | done | rfl | (simp only [List.length_drop, List.length_take]; rfl)) ?_; (with_reducible refine (bits_Unpack.calls kj10 _ _ l1 a2 t221 t222 _ ?side1 ?side2 A25.out).mono ?_); (case side1 => repeat (first | exact (Kd.C_below HR1.out HB.out) | (with_reducible refine Kd.C_alloc ?_ _) | (with_reducible refine Kd.C_drewN ?_ _) | (with_reducible refine Kd.C_drew ?_))); (case side2 => exact HC1.out); rintro e w35 ⟨v223, rfl, ho0, hb⟩; refine ⟨_, rfl, ?_⟩; have n0_ := Aside0.mk (Kd.R_lower ho0 (below_size (by repeat (first | (with_reducible first | exact HB.out | apply below_alloc | apply pw_below_drewN | apply below_drew1) | exact HB.out)))); have n1_ := Aside0.mk (below_step (by repeat (first | (with_reducible first | exact HB.out | apply below_alloc | apply pw_below_drewN | apply below_drew1) | exact HB.out)) hb); clear HB; have HO224 := n0_; have HB := n1_; clear n0_ n1_; (try clear hb); (try clear hb2); (try clear hk); (try clear hi); (try clear ho0); obtain ⟨Ao36, co36, eo36⟩ := Kd.R_slice HO224.out; subst eo36) | ((with_reducible refine gate_callee (f := 19) rfl ?_); refine goesL_ (some 74) rfl rfl Try.func19 (by kernel_rfl) rfl #[.slice Ao36 t221.length co36] rfl (by (try simp only [List.map_toArray, List.map_cons, List.map_nil]); first | done | rfl | (simp only [List.length_drop, List.length_take]; rfl)) ?_; (with_reducible refine (bits_Pack.calls kj10 _ _ t221 t227 _ ?side1 ?side2 A27.out).mono ?_); (case side1 => repeat (first | exact (Kd.R_reads' HO224.out).2.2 | (with_reducible refine Kd.C_alloc ?_ _) | (with_reducible refine Kd.C_drewN ?_ _) | (with_reducible refine Kd.C_drew ?_))); (case side2 => exact (Kd.R_reads' HO224.out).2.1); rintro e w37 ⟨v228, rfl, ho0, hb⟩; refine ⟨_, rfl, ?_⟩; have n0_ := Aside0.mk (Kd.R_below (by (with_reducible repeat (first | apply Kd.R_alloc | apply Kd.R_drewN | apply Kd.R_drew)); exact HO224.out) hb); have n1_ := Aside0.mk (Kd.R_lower ho0 (below_size (by repeat (first | (with_reducible first | exact HB.out | apply below_alloc | apply pw_below_drewN | apply below_drew1) | exact HB.out)))); have n2_ := Aside0.mk (below_step (by repeat (first | (with_reducible first | exact HB.out | apply below_alloc | apply pw_below_drewN | apply below_drew1) | exact HB.out)) hb); clear HO224; clear HB; have HO224 := n0_; have HO229 := n1_; have HB := n2_; clear n0_ n1_ n2_; (try clear hb); (try clear hb2); (try clear hk); (try clear hi); (try clear ho0); obtain ⟨Ao38, co38, eo38⟩ := Kd.R_slice HO229.out; subst eo38) | ((with_reducible refine gate_callee (f := 18) rfl ?_); refine goesL_ (some 76) rfl rfl Try.func18 (by kernel_rfl) rfl #[.slice Ao38 t227.length co38, .slice A1 l1.length c1] rfl (by (try simp only [List.map_toArray, List.map_cons, List.map_nil]); first | done | rfl | (simp only [List.length_drop, List.length_take]; rfl)) ?_; (with_reducible refine (bilgeref01_Bytes.calls kj10 _ _ t227 _ _ l1 t230 _ ?side1 ?side2 ?side3 ?side4 A28.out).mono ?_); (case side1 => repeat (first | exact (Kd.R_reads' HO229.out).2.2 | (with_reducible refine Kd.C_alloc ?_ _) | (with_reducible refine Kd.C_drewN ?_ _) | (with_reducible refine Kd.C_drew ?_))); (case side2 => exact (Kd.R_reads' HO229.out).2.1); (case side3 => repeat (first | exact (Kd.C_below HR1.out HB.out) | (with_reducible refine Kd.C_alloc ?_ _) | (with_reducible refine Kd.C_drewN ?_ _) | (with_reducible refine Kd.C_drew ?_))); (case side4 => exact HC1.out); rintro e w' ⟨rfl, ⟨nd, rfl⟩⟩; refine ⟨_, rfl, ?_⟩) | ((with_reducible refine gate_callee (f := 23) rfl ?_); refine goesL_ (some 79) rfl rfl Try.func23 (by kernel_rfl) rfl #[.slice A1 l1.length c1, .int .i64 a2] rfl (by (try simp only [List.map_toArray, List.map_cons, List.map_nil]); first | done | rfl | (simp only [List.length_drop, List.length_take]; rfl)) ?_; (with_reducible refine (bits_Tidy.calls _ _ l1 a2 t231 _ ?side1 ?side2 A29.out).mono ?_); (case side1 => repeat (first | exact (Kd.C_below HR1.out (by repeat (first | (with_reducible first | exact HB.out | apply below_alloc | apply pw_below_drewN | apply below_drew1) | exact HB.out))) | (with_reducible refine Kd.C_alloc ?_ _) | (with_reducible refine Kd.C_drewN ?_ _) | (with_reducible refine Kd.C_drew ?_))); (case side2 => exact HC1.out); rintro e w' ⟨rfl, ⟨nd, rfl⟩⟩; refine ⟨_, rfl, ?_⟩) | (go_at_call 25; (with_reducible refine (bits_Ones.calls kj10 _ _ t221 t232 _ ?side1 ?side2 A32.out).mono ?_); (case side1 => repeat (first | exact (Kd.R_reads' HO224.out).2.2 | (with_reducible refine Kd.C_alloc ?_ _) | (with_reducible refine Kd.C_drewN ?_ _) | (with_reducible refine Kd.C_drew ?_))); (case side2 => exact (Kd.R_reads' HO224.out).2.1); rintro e w' ⟨rfl, ⟨nd, rfl⟩⟩) | (go_at_call 14; (with_reducible refine (bilgelaw02_sure.calls kj10  t233 _ A34.out).mono ?_); rintro e w39 ⟨rfl, hb⟩; have n0_ := Aside0.mk (Kd.R_below (by (with_reducible repeat (first | apply Kd.R_alloc | apply Kd.R_drewN | apply Kd.R_drew)); exact HO224.out) hb); have n1_ := Aside0.mk (Kd.R_below (by (with_reducible repeat (first | apply Kd.R_alloc | apply Kd.R_drewN | apply Kd.R_drew)); exact HO229.out) hb); have n2_ := Aside0.mk (below_step (by repeat (first | (with_reducible first | exact HB.out | apply below_alloc | apply pw_below_drewN | apply below_drew1) | exact HB.out)) hb); clear HO224; clear HO229; clear HB; have HO224 := n0_; have HO229 := n1_; have HB := n2_; clear n0_ n1_ n2_; (try clear hb); (try clear hb2); (try clear hk); (try clear hi)))
           all_goals try (first | exact absurd (of_decide_eq_true c33b0) (by assumption))
           go_ret
           exact ⟨by first | rfl | (simp [errW_none, errW_some] <;> rfl) | (simp [*, errW_none, errW_some] <;> rfl), by repeat (first | (with_reducible first | exact HB.out | apply below_alloc | apply pw_below_drewN | apply below_drew1) | exact HB.out)⟩
          ·rw [if_neg c33] at H
           exact absurd H (by simp)
         ·rw [if_neg c31] at H
          exact absurd H (by simp)
        ·rw [if_neg c30] at H
         exact absurd H (by simp)
       ·rw [if_neg c26] at H
        have c26b0 : (t222 == 0) = false := beq_eq_false_iff_ne.mpr c26
        have c26b1 : (t222 != 0) = true := bne_iff_ne.mpr c26
        by_cases c40 : (t221.length : Int) = 0
        ·rw [if_pos c40] at H
         have c40b0 : ((t221.length : Int) == 0) = true := beq_iff_eq.mpr c40
         have c40b1 : ((t221.length : Int) != 0) = false := bne_eq_false_iff_eq.mpr c40
         clear c40
         replace H := Option.bind_eq_some_iff.mp H
         obtain ⟨t225, A410, H⟩ := H
         replace H : (if t225 = true then (none) else ((bilgelaw02_sure.f kj10).bind fun t226 => (some t226))) = some r := H
         have A41 := Aside0.mk A410
         clear A410
         by_cases c42 : t225 = true
         ·subst c42
          have H1 : (none) = some r := by rw [if_pos rfl] at H; exact H
          clear H
          have H := H1
          clear H1
          exact absurd H (by simp)
         ·replace c42 := Bool.eq_false_iff.mpr c42
          subst c42
          have H1 : ((bilgelaw02_sure.f kj10).bind fun t226 => (some t226)) = some r := by rw [if_neg (show ¬ (false = true) by decide)] at H; exact H
          clear H
          have H := H1
          clear H1
          replace H := Option.bind_eq_some_iff.mp H
          obtain ⟨t226, A430, H⟩ := H
          replace H : (some t226) = some r := H
          have A43 := Aside0.mk A430
          clear A430
          obtain rfl := Option.some.inj H
          go_wp2_with (first | ((with_reducible refine gate_callee (f := 15) rfl ?_); refine goesL_ (some 56) rfl rfl Try.func15 (by kernel_rfl) rfl #[.slice A1 l1.length c1, .int .i64 a2] rfl (by (try simp only [List.map_toArray, List.map_cons, List.map_nil]); first | done | rfl | (simp only [List.length_drop, List.length_take]; rfl)) ?_; (with_reducible refine (bits_Unpack.calls kj10 _ _ l1 a2 t221 t222 _ ?side1 ?side2 A25.out).mono ?_); (case side1 => repeat (first | exact (Kd.C_below HR1.out HB.out) | (with_reducible refine Kd.C_alloc ?_ _) | (with_reducible refine Kd.C_drewN ?_ _) | (with_reducible refine Kd.C_drew ?_))); (case side2 => exact HC1.out); rintro e w44 ⟨v223, rfl, ho0, hb⟩; refine ⟨_, rfl, ?_⟩; have n0_ := Aside0.mk (Kd.R_lower ho0 (below_size (by repeat (first | (with_reducible first | exact HB.out | apply below_alloc | apply pw_below_drewN | apply below_drew1) | exact HB.out)))); have n1_ := Aside0.mk (below_step (by repeat (first | (with_reducible first | exact HB.out | apply below_alloc | apply pw_below_drewN | apply below_drew1) | exact HB.out)) hb); clear HB; have HO224 := n0_; have HB := n1_; clear n0_ n1_; (try clear hb); (try clear hb2); (try clear hk); (try clear hi); (try clear ho0); obtain ⟨Ao45, co45, eo45⟩ := Kd.R_slice HO224.out; subst eo45) | (go_at_call 23; (with_reducible refine (bits_Tidy.calls _ _ l1 a2 false _ ?side1 ?side2 A41.out).mono ?_); (case side1 => repeat (first | exact (Kd.C_below HR1.out HB.out) | (with_reducible refine Kd.C_alloc ?_ _) | (with_reducible refine Kd.C_drewN ?_ _) | (with_reducible refine Kd.C_drew ?_))); (case side2 => exact HC1.out); rintro e w' ⟨rfl, ⟨nd, rfl⟩⟩) | (go_at_call 14; (with_reducible refine (bilgelaw02_sure.calls kj10  t226 _ A43.out).mono ?_); rintro e w46 ⟨rfl, hb⟩; have n0_ := Aside0.mk (Kd.R_below (by (with_reducible repeat (first | apply Kd.R_alloc | apply Kd.R_drewN | apply Kd.R_drew)); exact HO224.out) hb); have n1_ := Aside0.mk (below_step (by repeat (first | (with_reducible first | exact HB.out | apply below_alloc | apply pw_below_drewN | apply below_drew1) | exact HB.out)) hb); clear HO224; clear HB; have HO224 := n0_; have HB := n1_; clear n0_ n1_; (try clear hb); (try clear hb2); (try clear hk); (try clear hi)))
          go_ret
          exact ⟨by first | rfl | (simp [errW_none, errW_some] <;> rfl) | (simp [*, errW_none, errW_some] <;> rfl), by repeat (first | (with_reducible first | exact HB.out | apply below_alloc | apply pw_below_drewN | apply below_drew1) | exact HB.out)⟩
        ·rw [if_neg c40] at H
         exact absurd H (by simp)

/-- THE ONE PURE STATEMENT of bilgelaw02_BitsBack: yours. -/
def bilgelaw02_BitsBack.Pure : Prop := ∀ (x0 : List Bool) (x1 : List Int) (x2 : Int), (x0.length ≤ maxLen ∧ x0.length * 1 ≤ 140737488351232 ∧ ∀ y0 ∈ x0, True) → (x1.length ≤ maxLen ∧ x1.length * 1 ≤ 140737488351232 ∧ ∀ y0 ∈ x1, (Lit.int .u8 y0).wf = true) → (Lit.int .i64 x2).wf = true → ∃ k, bilgelaw02_BitsBack.f k x0 x1 x2 = some true

end Go.Proofs.Ytnaedmakkefdfaa.P
