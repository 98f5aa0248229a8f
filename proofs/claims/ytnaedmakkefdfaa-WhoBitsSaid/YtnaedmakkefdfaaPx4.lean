-- Written by the session's own turn of the kit's print program (wip/patch_print.py). Not trusted: Lean checks it.
import Derived.Test.YtnaedmakkefdfaaPx0
import Derived.Test.YtnaedmakkefdfaaPx3
namespace Go.Proofs.Ytnaedmakkefdfaa.P
open Go.RowKit Go.Proofs.YtnaedmakkefdfaaW.PrintWords Go.Proofs.YtnaedmakkefdfaaW.PrintLast Go.Proofs.YtnaedmakkefdfaaW.PrintMore
attribute [local go_sem] max2_int min2_int max_two min_two max_three min_three max_four min_four   -- for this text's walks alone
set_option linter.unusedVariables false
set_option linter.unusedSimpArgs false

/-! ### bits_Pack: function 19 -/
def bits_Pack.l0 : Nat → List Int → List Bool → Int → Int → Option (List Int)
 | 0, _, _, _, _ => none
 | k + 1, x3, x10, x11, x12 => if x12 < x11 then (if 0 ≤ x12 then (if x12 < (x10.length : Int) then (if rdOf false x10 x12 = true then (if 0 ≤ (wrap64 (Int.tdiv x12 8)) then (if (wrap64 (Int.tdiv x12 8)) < (x3.length : Int) then (if 0 ≤ (Int.tmod x12 8) then (bits_Pack.l0 k (x3.set ((wrap64 (Int.tdiv x12 8)) : Int).toNat (Go.bits .or .u8 (rd x3 (wrap64 (Int.tdiv x12 8))) (shl .u8 1 (Int.tmod x12 8)))) x10 x11 (wrap64 (x12 + 1))) else (none)) else (none)) else (none)) else (bits_Pack.l0 k x3 x10 x11 (wrap64 (x12 + 1)))) else (none)) else (none)) else (some x3)
def bits_Pack.f (k : Nat) (l0 : List Bool) : Option (List Int) := (bits_Size.f (l0.length : Int)).bind fun t120 => (if 0 ≤ t120 then (if (t120 : Int).toNat ≤ 281474976710656 then (bits_Pack.l0 k (List.replicate (t120 : Int).toNat 0) l0 (l0.length : Int) 0) else (none)) else (none))
theorem bits_Pack.mono_l : ∀ k, (∀ y0 y1 y2 y3, LeO (bits_Pack.l0 k y0 y1 y2 y3) (bits_Pack.l0 (k + 1) y0 y1 y2 y3))
 | 0 => fun _ _ _ _ r h => by simp [bits_Pack.l0] at h
 | k + 1 => by
  have ih0 := bits_Pack.mono_l k
  ·intro y0 y1 y2 y3
   unfold bits_Pack.l0
   repeat' first
   | (with_reducible exact ih0 _ _ _ _)
   | (with_reducible exact LeO.refl _)
   | (with_reducible exact LeO.none _)
   | (with_reducible refine LeO.ite ?_ ?_)
   | (with_reducible refine LeO.bind ?_ (fun _ => ?_))
   | exact ih0 _ _ _ _
   | exact LeO.none _
   | refine LeO.ite ?_ ?_
   | refine LeO.bind ?_ (fun _ => ?_)
theorem bits_Pack.mono : ∀ a0 k, LeO (bits_Pack.f k a0) (bits_Pack.f (k + 1) a0) := by
 intro a0 k
 have ih0 := bits_Pack.mono_l k
 unfold bits_Pack.f
 repeat' first
   | (with_reducible exact ih0 _ _ _ _)
   | (with_reducible exact LeO.refl _)
   | (with_reducible exact LeO.none _)
   | (with_reducible refine LeO.ite ?_ ?_)
   | (with_reducible refine LeO.bind ?_ (fun _ => ?_))
   | exact ih0 _ _ _ _
   | exact LeO.none _
   | refine LeO.ite ?_ ?_
   | refine LeO.bind ?_ (fun _ => ?_)
def bits_Pack.T6 : Bool × List (List Nat × List Nat) := (true, [([], []), ([], []), ([1], [1]), ([0, 2], [0, 2]), ([3], [3]), ([], []), ([5], [5]), ([6], [6]), ([4, 7], [4, 7]), ([0, 2, 0, 1, 2, 3, 4, 5, 6, 7, 8], [0, 2]), ([9, 8, 0, 1, 2, 3, 4, 5, 6, 7, 8], [8, 9])])
def bits_Pack.B6 : List Nat := [0, 0, 2, 7, 15, 0, 32, 96, 255, 511, 1023]
theorem bits_Pack.tab6 : rtab .any (opsOf Try.f19 6) = bits_Pack.T6 := by kernel_rfl
theorem bits_Pack.bits6 : waitsOk bits_Pack.T6.2 bits_Pack.B6 = true := by kernel_rfl
set_option maxHeartbeats 8000000 in
set_option maxRecDepth 100000 in
theorem bits_Pack.calls (k : Nat) (A0 : Option Addr) (c0 : Nat) (l0 : List Bool) (r : List Int) (w : World) (hr0 : Kd.C Kd.bool w A0 l0.length l0) (hc0 : l0.length ≤ c0) (h : bits_Pack.f k l0 = some r) :
  Calls Try.prog 19 #[.slice A0 l0.length c0] w fun e w' => ∃ v0_ : Value, e = .returned (v0_) ∧ Kd.R (Kd.int .u8) 5 w' w.heap.size (fun _ => True) v0_ r ∧ Below w.heap.size w w' := by
 have HR0 := Aside0.mk hr0
 have HC0 := Aside0.mk hc0
 clear hr0 hc0
 have HB := Aside0.mk (Below.refl w.heap.size w)
 have H : ((bits_Size.f (l0.length : Int)).bind fun t120 => (if 0 ≤ t120 then (if (t120 : Int).toNat ≤ 281474976710656 then (bits_Pack.l0 k (List.replicate (t120 : Int).toNat 0) l0 (l0.length : Int) 0) else (none)) else (none))) = some r := h
 clear h
 replace H := Option.bind_eq_some_iff.mp H
 obtain ⟨t120, A20, H⟩ := H
 replace H : (if 0 ≤ t120 then (if (t120 : Int).toNat ≤ 281474976710656 then (bits_Pack.l0 k (List.replicate (t120 : Int).toNat 0) l0 (l0.length : Int) 0) else (none)) else (none)) = some r := H
 have A2 := Aside0.mk A20
 clear A20
 by_cases c3 : 0 ≤ t120
 ·rw [if_pos c3] at H
  have c3b0 := eq_true c3
  have c3b1 : decide (0 ≤ t120) = true := decide_eq_true c3
  clear c3
  by_cases c4 : (t120 : Int).toNat ≤ 281474976710656
  ·rw [if_pos c4] at H
   have c4b0 := eq_true c4
   have c4b1 : decide ((t120 : Int).toNat ≤ 281474976710656) = true := decide_eq_true c4
   clear c4
   obtain ⟨y121, hy121⟩ : ∃ y_ : List Int, y_ = (List.replicate (t120 : Int).toNat 0) := ⟨_, rfl⟩
   replace H : (bits_Pack.l0 k y121 l0 (l0.length : Int) 0) = some r := by first | (rw [hy121]; with_reducible exact H) | (have H2_ := (Option.bind_some _ _).symm.trans H; rw [hy121]; with_reducible exact H2_) | (have H2_ := (Option.bind_some _ _).symm.trans H; with_reducible exact H2_) | with_reducible exact H | (rw [hy121]; exact H) | exact H
   have Ny121 := Aside0.mk hy121
   clear hy121
   have H' := Aside0.mk H
   clear H
   go_enter Try.func19, Try.ntmps19
   ((go_wp2_with (first | ((with_reducible refine gate_callee (f := 21) rfl ?_); refine goesL_ (some 8) rfl rfl Try.func21 (by kernel_rfl) rfl #[.int .i64 (l0.length : Int)] rfl (by (try simp only [List.map_toArray, List.map_cons, List.map_nil]); first | done | rfl | (simp only [List.length_drop, List.length_take]; rfl)) ?_; (with_reducible refine (bits_Size.calls (l0.length : Int) t120 _ A2.out).mono ?_); rintro e w' ⟨rfl, ⟨nd, rfl⟩⟩; refine ⟨_, rfl, ?_⟩) | ((with_reducible refine gate_dst (N := 9) rfl ?_); refine Kd.R_make (Kd.int .u8) _ 5 rfl (N := 9) rfl 23 _ _ rfl t120 rfl rfl Try.underlying23 (.int .u8 0) 1 info5 rfl (by decide) (by omega) 0 (ok := fun _ => True) (okp := fun _ => True) rfl (fun _ hk => hk) trivial (of_decide_eq_true (by first | (with_reducible assumption) | assumption)) (Nat.le_trans (Nat.mul_le_mul_right _ (of_decide_eq_true (by first | (with_reducible assumption) | assumption) : t120.toNat ≤ 281474976710656)) (by omega)) (Below.refl _ _) (Nat.le_refl _) ?_; intro v122 w5 ho6 hb hg_ hnew_; clear hg_ hnew_; (first | rw [← Ny121.out] at ho6 | (simp only [Int.reduceToNat] at ho6; rw [← Ny121.out] at ho6)); have n0_ := Aside0.mk (Kd.R_lower ho6 (below_size (by repeat (first | (with_reducible first | exact HB.out | apply below_alloc | apply pw_below_drewN | apply below_drew1) | exact HB.out)))); have n1_ := Aside0.mk (below_step (by repeat (first | (with_reducible first | exact HB.out | apply below_alloc | apply pw_below_drewN | apply below_drew1) | exact HB.out)) hb); clear HB; have HO123 := n0_; have HB := n1_; clear n0_ n1_; clear hb ho6))); repeat (go_step3; (go_wp2_with (first | ((with_reducible refine gate_callee (f := 21) rfl ?_); refine goesL_ (some 8) rfl rfl Try.func21 (by kernel_rfl) rfl #[.int .i64 (l0.length : Int)] rfl (by (try simp only [List.map_toArray, List.map_cons, List.map_nil]); first | done | rfl | (simp only [List.length_drop, List.length_take]; rfl)) ?_; (with_reducible refine (bits_Size.calls (l0.length : Int) t120 _ A2.out).mono ?_); rintro e w' ⟨rfl, ⟨nd, rfl⟩⟩; refine ⟨_, rfl, ?_⟩) | ((with_reducible refine gate_dst (N := 9) rfl ?_); refine Kd.R_make (Kd.int .u8) _ 5 rfl (N := 9) rfl 23 _ _ rfl t120 rfl rfl Try.underlying23 (.int .u8 0) 1 info5 rfl (by decide) (by omega) 0 (ok := fun _ => True) (okp := fun _ => True) rfl (fun _ hk => hk) trivial (of_decide_eq_true (by first | (with_reducible assumption) | assumption)) (Nat.le_trans (Nat.mul_le_mul_right _ (of_decide_eq_true (by first | (with_reducible assumption) | assumption) : t120.toNat ≤ 281474976710656)) (by omega)) (Below.refl _ _) (Nat.le_refl _) ?_; intro v122 w5 ho6 hb hg_ hnew_; clear hg_ hnew_; (first | rw [← Ny121.out] at ho6 | (simp only [Int.reduceToNat] at ho6; rw [← Ny121.out] at ho6)); have n0_ := Aside0.mk (Kd.R_lower ho6 (below_size (by repeat (first | (with_reducible first | exact HB.out | apply below_alloc | apply pw_below_drewN | apply below_drew1) | exact HB.out)))); have n1_ := Aside0.mk (below_step (by repeat (first | (with_reducible first | exact HB.out | apply below_alloc | apply pw_below_drewN | apply below_drew1) | exact HB.out)) hb); clear HB; have HO123 := n0_; have HB := n1_; clear n0_ n1_; clear hb ho6)))))
   all_goals try (first | exact absurd (of_decide_eq_true c3b1) (by assumption) | exact absurd (of_decide_eq_true c4b1) (by assumption))
   go_loopg [12] k (fun kq v12 w' => ∃ (x3_1 : List Int) (x12_1 : Int), v12 = .int .i64 x12_1 ∧ Aside0 (bits_Pack.l0 kq x3_1 l0 (l0.length : Int) x12_1 = some r) ∧ Aside0 (kq ≤ k) ∧ Aside0 (Kd.R (Kd.int .u8) 5 w' w.heap.size (fun _ => True) v122 x3_1) ∧ Aside0 (Below w.heap.size w w'))
   case atStart => exact ⟨(y121), (0), (by first | rfl | (simp; done) | (simp [*]; done)), H', ⟨Nat.le_refl _⟩, ⟨by (with_reducible repeat (first | apply Kd.R_alloc | apply Kd.R_drewN | apply Kd.R_drew)); exact HO123.out⟩, ⟨by repeat (first | (with_reducible first | exact HB.out | apply below_alloc | apply pw_below_drewN | apply below_drew1) | exact HB.out)⟩⟩
   case round =>
    clear H'
    try clear c1
    try clear c2
    try clear p2
    try clear c3
    try clear c3b0
    try clear c3b1
    try clear c4
    try clear c4b0
    try clear c4b1
    obtain ⟨x3_1, x12_1, rfl, HA, HK1, HO_3, HB⟩ := hrel
    cases gk with
    | zero => exact absurd HA.out (by simp [bits_Pack.l0])
    | succ k1 =>
     have H := HA.out
     clear HA
     simp only [bits_Pack.l0] at H
     by_cases c7 : x12_1 < (l0.length : Int)
     ·rw [if_pos c7] at H
      have c7b0 : decide (x12_1 < (l0.length : Int)) = true := decide_eq_true c7
      clear c7
      by_cases c8 : 0 ≤ x12_1
      ·rw [if_pos c8] at H
       have c8b0 : decide (0 ≤ x12_1) = true := decide_eq_true c8
       clear c8
       by_cases c9 : x12_1 < (l0.length : Int)
       ·rw [if_pos c9] at H
        have c9b0 : decide (x12_1 < (l0.length : Int)) = true := decide_eq_true c9
        clear c9
        obtain ⟨bq10, hbq10⟩ : ∃ b_ : Bool, b_ = (rdOf false l0 x12_1) := ⟨_, rfl⟩
        replace H : (if bq10 = true then (if 0 ≤ (wrap64 (Int.tdiv x12_1 8)) then (if (wrap64 (Int.tdiv x12_1 8)) < (x3_1.length : Int) then (if 0 ≤ (Int.tmod x12_1 8) then (bits_Pack.l0 k1 (x3_1.set ((wrap64 (Int.tdiv x12_1 8)) : Int).toNat (Go.bits .or .u8 (rd x3_1 (wrap64 (Int.tdiv x12_1 8))) (shl .u8 1 (Int.tmod x12_1 8)))) l0 (l0.length : Int) (wrap64 (x12_1 + 1))) else (none)) else (none)) else (none)) else (bits_Pack.l0 k1 x3_1 l0 (l0.length : Int) (wrap64 (x12_1 + 1)))) = some r := by rw [← hbq10] at H; exact H
        have Nbq10 := Aside0.mk hbq10
        clear hbq10
        by_cases c11 : bq10 = true
        ·subst c11
         have H1 : (if 0 ≤ (wrap64 (Int.tdiv x12_1 8)) then (if (wrap64 (Int.tdiv x12_1 8)) < (x3_1.length : Int) then (if 0 ≤ (Int.tmod x12_1 8) then (bits_Pack.l0 k1 (x3_1.set ((wrap64 (Int.tdiv x12_1 8)) : Int).toNat (Go.bits .or .u8 (rd x3_1 (wrap64 (Int.tdiv x12_1 8))) (shl .u8 1 (Int.tmod x12_1 8)))) l0 (l0.length : Int) (wrap64 (x12_1 + 1))) else (none)) else (none)) else (none)) = some r := by rw [if_pos rfl] at H; exact H
         clear H
         have H := H1
         clear H1
         obtain ⟨ji12, hji12⟩ : ∃ j_ : Int, (wrap64 (Int.tdiv x12_1 8)) = j_ := ⟨_, rfl⟩
         replace H : (if 0 ≤ (ji12) then (if (ji12) < (x3_1.length : Int) then (if 0 ≤ (Int.tmod x12_1 8) then (bits_Pack.l0 k1 (x3_1.set ((ji12) : Int).toNat (Go.bits .or .u8 (rd x3_1 (ji12)) (shl .u8 1 (Int.tmod x12_1 8)))) l0 (l0.length : Int) (wrap64 (x12_1 + 1))) else (none)) else (none)) else (none)) = some r := by first | (rw [hji12] at H; exact H) | (simp only [hji12] at H ⊢; exact H)
         have hji12w : (IntKind.i64.wrap (Int.tdiv x12_1 8)) = ji12 := (i64_w _).trans hji12
         by_cases c13 : 0 ≤ (ji12)
         ·rw [if_pos c13] at H
          have c13b0 : decide (0 ≤ (ji12)) = true := decide_eq_true c13
          clear c13
          by_cases c14 : (ji12) < (x3_1.length : Int)
          ·rw [if_pos c14] at H
           have c14b0 : decide ((ji12) < (x3_1.length : Int)) = true := decide_eq_true c14
           clear c14
           obtain ⟨ji15, hji15⟩ : ∃ j_ : Int, (Int.tmod x12_1 8) = j_ := ⟨_, rfl⟩
           replace H : (if 0 ≤ (ji15) then (bits_Pack.l0 k1 (x3_1.set ((ji12) : Int).toNat (Go.bits .or .u8 (rd x3_1 (ji12)) (shl .u8 1 (ji15)))) l0 (l0.length : Int) (wrap64 (x12_1 + 1))) else (none)) = some r := by first | (rw [hji15] at H; exact H) | (simp only [hji15] at H ⊢; exact H)
           by_cases c16 : 0 ≤ (ji15)
           ·rw [if_pos c16] at H
            have c16b0 := eq_true c16
            have c16b1 : decide (0 ≤ (ji15)) = true := decide_eq_true c16
            clear c16
            obtain ⟨ji17, hji17⟩ : ∃ j_ : Int, (shl .u8 1 (ji15)) = j_ := ⟨_, rfl⟩
            replace H : (bits_Pack.l0 k1 (x3_1.set ((ji12) : Int).toNat (Go.bits .or .u8 (rd x3_1 (ji12)) (ji17))) l0 (l0.length : Int) (wrap64 (x12_1 + 1))) = some r := by first | (rw [hji17] at H; exact H) | (simp only [hji17] at H ⊢; exact H)
            have hji17_ : (IntKind.u8.wrap (1 * 2 ^ min (ji15).toNat 8)) = ji17 := hji17
            have hji17z : (ji15) ≤ 8 → (IntKind.u8.wrap (1 * 2 ^ (ji15).toNat)) = ji17 := shl_small hji17
            have hji17u : (IntKind.u8.wrap (2 ^ min (ji15).toNat 8)) = ji17 := by have h_ := hji17_; rw [Int.one_mul] at h_; exact h_
            have hji17v : (ji15) ≤ 8 → (IntKind.u8.wrap (2 ^ (ji15).toNat)) = ji17 := fun hle_ => by have h_ := hji17z hle_; rw [Int.one_mul] at h_; exact h_
            obtain ⟨y126, hy126⟩ : ∃ y_ : List Int, y_ = (x3_1.set ((ji12) : Int).toNat (Go.bits .or .u8 (rd x3_1 (ji12)) (ji17))) := ⟨_, rfl⟩
            replace H : (bits_Pack.l0 k1 y126 l0 (l0.length : Int) (wrap64 (x12_1 + 1))) = some r := by first | (rw [hy126]; with_reducible exact H) | (have H2_ := (Option.bind_some _ _).symm.trans H; rw [hy126]; with_reducible exact H2_) | (have H2_ := (Option.bind_some _ _).symm.trans H; with_reducible exact H2_) | with_reducible exact H | (rw [hy126]; exact H) | exact H
            have Ny126 := Aside0.mk hy126
            clear hy126
            have H' := Aside0.mk H
            clear H
            have p124 : 0 ≤ (x12_1 : Int) := of_decide_eq_true (by first | (with_reducible assumption) | assumption)
            have q124 : x12_1 < (l0.length : Int) := of_decide_eq_true (by first | (with_reducible assumption) | assumption)
            obtain ⟨ad124, e124, hx124_0⟩ := Kd.at_bool HR0.out x12_1 p124 q124
            (try rw [← Nbq10.out] at hx124_0)
            cases e124
            replace hx124_0 := (HB.out.cell (World.block_lt_of_cell? w _ hx124_0)).trans hx124_0
            replace p124 := eq_true p124
            replace q124 := eq_true q124
            try go_wp2
            have n0_ := Aside0.mk (Kd.R_drew HO_3.out)
            have n1_ := Aside0.mk (below_drew1 HB.out)
            clear HO_3
            clear HB
            have HO_3 := n0_
            have HB := n1_
            clear n0_ n1_
            obtain ⟨Ao20, co20, eo20⟩ := Kd.R_slice HO_3.out
            (first | subst eo20 | (injection eo20 with f1_ f2_ f3_; have f4_ := f1_.symm; have f5_ := f3_.symm; clear f1_ f2_ f3_; subst f4_; subst f5_))
            have p125 : 0 ≤ ((ji12) : Int) := of_decide_eq_true (by first | (with_reducible assumption) | assumption)
            have q125 : (ji12) < (x3_1.length : Int) := of_decide_eq_true (by first | (with_reducible assumption) | assumption)
            obtain ⟨ad125, e125, hx125_0⟩ := Kd.at_int (Kd.R_reads' HO_3.out).2.2 (ji12) p125 q125
            cases e125
            replace p125 := eq_true p125
            replace q125 := eq_true q125
            have p18 : 0 ≤ ((ji12) : Int) := of_decide_eq_true (by first | (with_reducible assumption) | assumption)
            have q18 : ((ji12) : Int) < ((x3_1.length : Int) : Int) := of_decide_eq_true (by first | (with_reducible assumption) | assumption)
            obtain ⟨go18, co18, eo18, gb18, gl18, cl18, HG18⟩ := Kd.R_form HO_3.out (by omega)
            (first | cases eo18 | (injection eo18 with ea_ en_ ec_; (first | subst ea_ | (injection ea_ with ea_; subst ea_)); subst ec_; clear en_))
            have GB18 := Aside0.mk gb18
            have GG18 := Aside0.mk HG18
            clear gb18 gl18 HG18
            (first | simp only [add_plain] at hx125_0 | skip)
            obtain ⟨hx18_0, hf18_0⟩ := Kd.R_celln 0 HO_3.out ((ji12) : Int) p18 q18
            replace p18 := eq_true p18
            replace q18 := eq_true q18
            have HP21 := Kd.R_putn HO_3.out ((ji12) : Int) (Go.bits .or .u8 (rd x3_1 (ji12)) (ji17))
            rw [← Ny126.out] at HP21
            have HQ21 := Aside0.mk HP21
            clear HP21
            refine start_ (n := 11) (S := fun w' => w'.cell? ⟨go18, ((ji12)).toNat, none⟩ = some (.int .u8 (rd x3_1 (ji12)))) (ds := [10]) #[false, false, false, false, false, false, false, false, false, false, false] (by kernel_rfl) rfl rfl (hx125_0) (fun hHeld => ?_); refine with_tabW bits_Pack.tab6 bits_Pack.bits6 (fun HT_ HW_ => ?_)
            generalize wr.drew = w19 at HO_3 HB GG18 HQ21 hf18_0 hx125_0 hx18_0 hHeld ⊢
            refine pure_ (i := 0) (N := some 19) (v := ?_) (a' := ?_) #[true, false, false, false, false, false, false, false, false, false, false] rfl rfl (any_of HT_.out (by kernel_rfl)) (fun _ _ _ h => h) (Or.inl ⟨by rfl, ?_⟩) ?_ ?_
            rotate_left
            ·intro w'
             go_simp
             first | with_reducible rfl | (simp [Instr.field, go_sem]; rfl)
            rotate_left
            ·simp only [Act.put, List.setIfInBounds_toArray, List.set_cons_zero, List.set_cons_succ, i64_w, i32_w]
             rfl
            refine pure_ (i := 1) (N := some 20) (v := ?_) (a' := ?_) #[true, true, false, false, false, false, false, false, false, false, false] rfl rfl (any_of HT_.out (by kernel_rfl)) (fun _ _ _ h => h) (Or.inl ⟨by rfl, ?_⟩) ?_ ?_
            rotate_left
            ·intro w'
             go_simp
             first | with_reducible rfl | (simp [Instr.field, go_sem]; rfl)
            rotate_left
            ·simp only [Act.put, List.setIfInBounds_toArray, List.set_cons_zero, List.set_cons_succ, i64_w, i32_w]
             rfl
            refine pure_ (i := 2) (N := some 21) (v := ?_) (a' := ?_) #[true, true, true, false, false, false, false, false, false, false, false] rfl rfl (any_of HT_.out (by kernel_rfl)) (fun _ _ _ h => h) (Or.inl ⟨by rfl, ?_⟩) ?_ ?_
            rotate_left
            ·intro w'
             go_simp
             first | with_reducible rfl | (simp [Instr.field, go_sem]; rfl)
            rotate_left
            ·simp only [Act.put, List.setIfInBounds_toArray, List.set_cons_zero, List.set_cons_succ, i64_w, i32_w]
             rfl
            refine pure_ (i := 3) (N := some 22) (v := ?_) (a' := ?_) #[true, true, true, true, false, false, false, false, false, false, false] rfl rfl (any_of HT_.out (by kernel_rfl)) (fun _ _ _ h => h) (Or.inl ⟨by rfl, ?_⟩) ?_ ?_
            rotate_left
            ·intro w'
             go_simp
             first | with_reducible rfl | (simp [Instr.field, go_sem]; rfl)
            rotate_left
            ·simp only [Act.put, List.setIfInBounds_toArray, List.set_cons_zero, List.set_cons_succ, i64_w, i32_w]
             rfl
            refine pure_ (i := 5) (N := some 24) (v := ?_) (a' := ?_) #[true, true, true, true, false, true, false, false, false, false, false] rfl rfl (any_of HT_.out (by kernel_rfl)) (fun _ _ _ h => h) (Or.inl ⟨by rfl, ?_⟩) ?_ ?_
            rotate_left
            ·intro w'
             go_simp
             first | with_reducible rfl | (simp [Instr.field, go_sem]; rfl)
            rotate_left
            ·simp only [Act.put, List.setIfInBounds_toArray, List.set_cons_zero, List.set_cons_succ, i64_w, i32_w]
             rfl
            refine pure_ (i := 6) (N := some 25) (v := ?_) (a' := ?_) #[true, true, true, true, false, true, true, false, false, false, false] rfl rfl (any_of HT_.out (by kernel_rfl)) (fun _ _ _ h => h) (Or.inl ⟨by rfl, ?_⟩) ?_ ?_
            rotate_left
            ·intro w'
             go_simp
             first | with_reducible rfl | (simp [Instr.field, go_sem]; rfl)
            rotate_left
            ·simp only [Act.put, List.setIfInBounds_toArray, List.set_cons_zero, List.set_cons_succ, i64_w, i32_w]
             rfl
            refine pure_ (i := 7) (N := some 26) (v := ?_) (a' := ?_) #[true, true, true, true, false, true, true, true, false, false, false] rfl rfl (any_of HT_.out (by kernel_rfl)) (fun _ _ _ h => h) (Or.inl ⟨by rfl, ?_⟩) ?_ ?_
            rotate_left
            ·intro w'
             go_simp
             first | with_reducible rfl | (simp [Instr.field, go_sem]; rfl)
            rotate_left
            ·simp only [Act.put, List.setIfInBounds_toArray, List.set_cons_zero, List.set_cons_succ, i64_w, i32_w]
             rfl
            refine take_ (i := 4) (N := some 23) (v := ?_) (a' := ?_) #[true, true, true, true, true, true, true, true, false, false, false] rfl rfl (take_ofW HT_.out HW_.out (by kernel_rfl)) (fun _ _ _ h => h) (Or.inl ⟨by rfl, ?_⟩) hHeld ?_ ?_
            rotate_left
            ·intro w' s0
             go_simp
             first | with_reducible rfl | (simp [Instr.field, go_sem]; rfl)
            rotate_left
            ·simp only [Act.put, List.setIfInBounds_toArray, List.set_cons_zero, List.set_cons_succ, i64_w, i32_w]
             rfl
            refine pure_ (i := 8) (N := some 27) (v := ?_) (a' := ?_) #[true, true, true, true, true, true, true, true, true, false, false] rfl rfl (any_of HT_.out (by kernel_rfl)) (fun _ _ _ h => h) (Or.inl ⟨by rfl, ?_⟩) ?_ ?_
            rotate_left
            ·intro w'
             go_simp
             first | with_reducible rfl | (simp [Instr.field, go_sem]; rfl)
            rotate_left
            ·simp only [Act.put, List.setIfInBounds_toArray, List.set_cons_zero, List.set_cons_succ, i64_w, i32_w]
             rfl
            refine pure_ (i := 9) (N := some 28) (v := ?_) (a' := ?_) #[true, true, true, true, true, true, true, true, true, true, false] rfl rfl (any_of HT_.out (by kernel_rfl)) (fun _ _ _ h => h) (Or.inl ⟨by rfl, ?_⟩) ?_ ?_
            rotate_left
            ·intro w'
             go_simp
             first | with_reducible rfl | (simp [Instr.field, go_sem]; rfl)
            rotate_left
            ·simp only [Act.put, List.setIfInBounds_toArray, List.set_cons_zero, List.set_cons_succ, i64_w, i32_w]
             rfl
            refine last_ (i := 10) (N := none) #[true, true, true, true, true, true, true, true, true, true, true] rfl rfl (one_of HT_.out (by kernel_rfl)) (by decide) (fun K hK => ?_)
            refine skip_ (w1 := ?_) (by rfl) rfl ?_ ?_
            rotate_left
            ·go_simp
             rfl
            refine hK.out _ _ ?_
            clear hK K
            refine done_ (done_of HT_.out (by kernel_rfl)) ?_
            try go_wp2
            go_roundg k1
            case measure => have := HK1.out; omega
            case rel => exact ⟨(y126), (wrap64 (x12_1 + 1)), (by first | rfl | (simp; done) | (simp [*]; done)), H', ⟨by have := HK1.out; omega⟩, ⟨by (with_reducible repeat (first | apply Kd.R_alloc | apply Kd.R_drewN | apply Kd.R_drew)); exact HQ21.out⟩, ⟨by repeat (first | (with_reducible first | exact HB.out | apply below_alloc | apply pw_below_drewN | apply below_drew1 | refine below_set ?_ GB18.out) | exact HB.out)⟩⟩
           ·rw [if_neg c16] at H
            exact absurd H (by simp)
          ·rw [if_neg c14] at H
           exact absurd H (by simp)
         ·rw [if_neg c13] at H
          exact absurd H (by simp)
        ·replace c11 := Bool.eq_false_iff.mpr c11
         subst c11
         have H1 : (bits_Pack.l0 k1 x3_1 l0 (l0.length : Int) (wrap64 (x12_1 + 1))) = some r := by rw [if_neg (show ¬ (false = true) by decide)] at H; exact H
         clear H
         have H := H1
         clear H1
         have H' := Aside0.mk H
         clear H
         have p124 : 0 ≤ (x12_1 : Int) := of_decide_eq_true (by first | (with_reducible assumption) | assumption)
         have q124 : x12_1 < (l0.length : Int) := of_decide_eq_true (by first | (with_reducible assumption) | assumption)
         obtain ⟨ad124, e124, hx124_0⟩ := Kd.at_bool HR0.out x12_1 p124 q124
         (try rw [← Nbq10.out] at hx124_0)
         cases e124
         replace hx124_0 := (HB.out.cell (World.block_lt_of_cell? w _ hx124_0)).trans hx124_0
         replace p124 := eq_true p124
         replace q124 := eq_true q124
         ((go_wp2); repeat (go_step3; (go_wp2)))
         all_goals try (first | exact absurd (of_decide_eq_true c3b1) (by assumption) | exact absurd (of_decide_eq_true c4b1) (by assumption) | exact absurd (of_decide_eq_true c7b0) (by assumption) | exact absurd (of_decide_eq_true c8b0) (by assumption) | exact absurd (of_decide_eq_true c9b0) (by assumption))
         go_roundg k1
         case measure => have := HK1.out; omega
         case rel => exact ⟨(x3_1), (wrap64 (x12_1 + 1)), (by first | rfl | (simp; done) | (simp [*]; done)), H', ⟨by have := HK1.out; omega⟩, ⟨by (with_reducible repeat (first | apply Kd.R_alloc | apply Kd.R_drewN | apply Kd.R_drew)); exact HO_3.out⟩, ⟨by repeat (first | (with_reducible first | exact HB.out | apply below_alloc | apply pw_below_drewN | apply below_drew1) | exact HB.out)⟩⟩
       ·rw [if_neg c9] at H
        exact absurd H (by simp)
      ·rw [if_neg c8] at H
       exact absurd H (by simp)
     ·rw [if_neg c7] at H
      have c7b0 : decide (x12_1 < (l0.length : Int)) = false := decide_eq_false c7
      clear c7
      obtain rfl := Option.some.inj H
      ((go_wp2); repeat (go_step3; (go_wp2)))
      all_goals try (first | exact absurd (of_decide_eq_true c3b1) (by assumption) | exact absurd (of_decide_eq_true c4b1) (by assumption) | exact absurd (by assumption) (of_decide_eq_false c7b0))
      ((try rw [Exit.noGoto_ret]); go_ret)
      exact ⟨_, by first | rfl | (simp [errW_none, errW_some] <;> rfl) | (simp [*, errW_none, errW_some] <;> rfl), by (with_reducible repeat (first | apply Kd.R_alloc | apply Kd.R_drewN | apply Kd.R_drew)); exact HO_3.out, by repeat (first | (with_reducible first | exact HB.out | apply below_alloc | apply pw_below_drewN | apply below_drew1) | exact HB.out)⟩
  ·rw [if_neg c4] at H
   exact absurd H (by simp)
 ·rw [if_neg c3] at H
  exact absurd H (by simp)

/-! ### bits_Flags: function 27 -/
def bits_Flags.f (k : Nat) (l0 : List Bool) : Option (Int) := if 0 ≤ (mn (l0.length : Int) 8) then (if (mn (l0.length : Int) 8) ≤ (l0.length : Int) then ((bits_Pack.f k (l0.take ((mn (l0.length : Int) 8) : Int).toNat)).bind fun t128 => (if (t128.length : Int) = 0 then (some 0) else (if 0 < (t128.length : Int) then (some (rd t128 0)) else (none)))) else (none)) else (none)
theorem bits_Flags.mono : ∀ a0 k, LeO (bits_Flags.f k a0) (bits_Flags.f (k + 1) a0) := by
 intro a0 k
 unfold bits_Flags.f
 repeat' first
   | (with_reducible exact bits_Pack.mono _ _)
   | (with_reducible exact LeO.refl _)
   | (with_reducible exact LeO.none _)
   | (with_reducible refine LeO.ite ?_ ?_)
   | (with_reducible refine LeO.bind ?_ (fun _ => ?_))
   | exact bits_Pack.mono _ _
   | exact LeO.none _
   | refine LeO.ite ?_ ?_
   | refine LeO.bind ?_ (fun _ => ?_)
set_option maxHeartbeats 8000000 in
set_option maxRecDepth 100000 in
theorem bits_Flags.calls (k : Nat) (A0 : Option Addr) (c0 : Nat) (l0 : List Bool) (r : Int) (w : World) (hr0 : Kd.C Kd.bool w A0 l0.length l0) (hc0 : l0.length ≤ c0) (h : bits_Flags.f k l0 = some r) :
  Calls Try.prog 27 #[.slice A0 l0.length c0] w fun e w' => e = .returned (.int .u8 r) ∧ Below w.heap.size w w' := by
 have HR0 := Aside0.mk hr0
 have HC0 := Aside0.mk hc0
 clear hr0 hc0
 have HB := Aside0.mk (Below.refl w.heap.size w)
 have H : (if 0 ≤ (mn (l0.length : Int) 8) then (if (mn (l0.length : Int) 8) ≤ (l0.length : Int) then ((bits_Pack.f k (l0.take ((mn (l0.length : Int) 8) : Int).toNat)).bind fun t128 => (if (t128.length : Int) = 0 then (some 0) else (if 0 < (t128.length : Int) then (some (rd t128 0)) else (none)))) else (none)) else (none)) = some r := h
 clear h
 obtain ⟨ji2, hji2⟩ : ∃ j_ : Int, (mn (l0.length : Int) 8) = j_ := ⟨_, rfl⟩
 replace H : (if 0 ≤ (ji2) then (if (ji2) ≤ (l0.length : Int) then ((bits_Pack.f k (l0.take ((ji2) : Int).toNat)).bind fun t128 => (if (t128.length : Int) = 0 then (some 0) else (if 0 < (t128.length : Int) then (some (rd t128 0)) else (none)))) else (none)) else (none)) = some r := by first | (rw [hji2] at H; exact H) | (simp only [hji2] at H ⊢; exact H)
 (try (have hji2h : ji2 ≤ 8 := by (rw [← hji2]; unfold mn; (repeat' split) <;> omega)))
 (try (have hji2g : ji2 ≤ 64 := by omega))
 (try (have hji2l : 0 ≤ ji2 := by (rw [← hji2]; unfold mn; (repeat' split) <;> omega)))
 (try (have hji2m : 0 ≤ ji2 := by omega))
 have hji2_ : (if 8 < (l0.length : Int) then 8 else (l0.length : Int)) = ji2 := hji2
 by_cases c3 : 0 ≤ (ji2)
 ·rw [if_pos c3] at H
  have c3b0 := eq_true c3
  have c3b1 : decide (0 ≤ (ji2)) = true := decide_eq_true c3
  clear c3
  by_cases c4 : (ji2) ≤ (l0.length : Int)
  ·rw [if_pos c4] at H
   have c4b0 := eq_true c4
   have c4b1 : decide ((ji2) ≤ (l0.length : Int)) = true := decide_eq_true c4
   clear c4
   replace H := Option.bind_eq_some_iff.mp H
   obtain ⟨t128, A50, H⟩ := H
   replace H : (if (t128.length : Int) = 0 then (some 0) else (if 0 < (t128.length : Int) then (some (rd t128 0)) else (none))) = some r := H
   have A5 := Aside0.mk A50
   clear A50
   by_cases c6 : (t128.length : Int) = 0
   ·rw [if_pos c6] at H
    have c6b0 : ((t128.length : Int) == 0) = true := beq_iff_eq.mpr c6
    have c6b1 : ((t128.length : Int) != 0) = false := bne_eq_false_iff_eq.mpr c6
    clear c6
    obtain rfl := Option.some.inj H
    obtain ⟨i07, hi07, _, hsz7, _⟩ := info_parts info4
    obtain ⟨hcut7, hA7, hC7⟩ := print_take_of (P := Try.prog) Value.bool false 22 4 .i64 Try.underlying22 hi07 hsz7 A0 c0 l0 (ji2) (of_decide_eq_true (by first | (with_reducible assumption) | assumption)) (of_decide_eq_true (by first | (with_reducible assumption) | assumption)) HC0.out
    have HR127 := Aside0.mk (Kd.C_of_reads (h1 := fun _ => rfl) (hA7 _ (Kd.reads_of_C HR0.out)))
    have HC127 := Aside0.mk hC7
    clear hA7 hC7 hi07 hsz7
    go_enter Try.func27, Try.ntmps27
    go_wp2_with (first | ((with_reducible refine gate_callee (f := 19) rfl ?_); refine goesL_ (some 9) rfl rfl Try.func19 (by kernel_rfl) rfl #[.slice A0 (l0.take ((ji2) : Int).toNat).length c0] rfl (by (try simp only [List.map_toArray, List.map_cons, List.map_nil]); first | done | (rw [show (l0.take ((ji2) : Int).toNat).length = (ji2).toNat from (by rw [List.length_take]; have h_ : ((ji2) : Int) ≤ (l0.length : Int) := of_decide_eq_true (by first | (with_reducible assumption) | assumption); omega)] <;> rfl) | (simp only [hji2]; rfl) | rfl | (simp only [List.length_drop, List.length_take]; rfl)) ?_; (with_reducible refine (bits_Pack.calls k _ _ (l0.take ((ji2) : Int).toNat) t128 _ ?side1 ?side2 A5.out).mono ?_); (case side1 => repeat (first | exact HR127.out | (with_reducible refine Kd.C_alloc ?_ _) | (with_reducible refine Kd.C_drewN ?_ _) | (with_reducible refine Kd.C_drew ?_))); (case side2 => exact HC127.out); rintro e w8 ⟨v129, rfl, ho0, hb⟩; refine ⟨_, rfl, ?_⟩; have n0_ := Aside0.mk (Kd.R_lower ho0 (below_size (by repeat (first | (with_reducible first | exact HB.out | apply below_alloc | apply pw_below_drewN | apply below_drew1) | exact HB.out)))); have n1_ := Aside0.mk (below_step (by repeat (first | (with_reducible first | exact HB.out | apply below_alloc | apply pw_below_drewN | apply below_drew1) | exact HB.out)) hb); clear HB; have HO130 := n0_; have HB := n1_; clear n0_ n1_; (try clear hb); (try clear hb2); (try clear hk); (try clear hi); (try clear ho0); obtain ⟨Ao9, co9, eo9⟩ := Kd.R_slice HO130.out; subst eo9))
    all_goals try (first | exact absurd (of_decide_eq_true c3b1) (by assumption) | exact absurd (of_decide_eq_true c4b1) (by assumption))
    go_ret
    exact ⟨by first | rfl | (simp [errW_none, errW_some] <;> rfl) | (simp only [← hji2]; first | rfl | (simp [errW_none, errW_some] <;> rfl)) | (simp [*, errW_none, errW_some] <;> rfl), by repeat (first | (with_reducible first | exact HB.out | apply below_alloc | apply pw_below_drewN | apply below_drew1) | exact HB.out)⟩
   ·rw [if_neg c6] at H
    have c6b0 : ((t128.length : Int) == 0) = false := beq_eq_false_iff_ne.mpr c6
    have c6b1 : ((t128.length : Int) != 0) = true := bne_iff_ne.mpr c6
    have c6b2 : ¬ (t128 = []) := fun h_ => c6 (by rw [h_]; rfl)
    by_cases c10 : 0 < (t128.length : Int)
    ·rw [if_pos c10] at H
     have c10b0 : decide (0 < (t128.length : Int)) = true := decide_eq_true c10
     have c10b1 : decide (0 < t128.length) = true := decide_eq_true (by omega)
     clear c10
     obtain rfl := Option.some.inj H
     obtain ⟨i011, hi011, _, hsz11, _⟩ := info_parts info4
     obtain ⟨hcut11, hA11, hC11⟩ := print_take_of (P := Try.prog) Value.bool false 22 4 .i64 Try.underlying22 hi011 hsz11 A0 c0 l0 (ji2) (of_decide_eq_true (by first | (with_reducible assumption) | assumption)) (of_decide_eq_true (by first | (with_reducible assumption) | assumption)) HC0.out
     have HR127 := Aside0.mk (Kd.C_of_reads (h1 := fun _ => rfl) (hA11 _ (Kd.reads_of_C HR0.out)))
     have HC127 := Aside0.mk hC11
     clear hA11 hC11 hi011 hsz11
     go_enter Try.func27, Try.ntmps27
     go_wp2_with (first | ((with_reducible refine gate_callee (f := 19) rfl ?_); refine goesL_ (some 9) rfl rfl Try.func19 (by kernel_rfl) rfl #[.slice A0 (l0.take ((ji2) : Int).toNat).length c0] rfl (by (try simp only [List.map_toArray, List.map_cons, List.map_nil]); first | done | (rw [show (l0.take ((ji2) : Int).toNat).length = (ji2).toNat from (by rw [List.length_take]; have h_ : ((ji2) : Int) ≤ (l0.length : Int) := of_decide_eq_true (by first | (with_reducible assumption) | assumption); omega)] <;> rfl) | (simp only [hji2]; rfl) | rfl | (simp only [List.length_drop, List.length_take]; rfl)) ?_; (with_reducible refine (bits_Pack.calls k _ _ (l0.take ((ji2) : Int).toNat) t128 _ ?side1 ?side2 A5.out).mono ?_); (case side1 => repeat (first | exact HR127.out | (with_reducible refine Kd.C_alloc ?_ _) | (with_reducible refine Kd.C_drewN ?_ _) | (with_reducible refine Kd.C_drew ?_))); (case side2 => exact HC127.out); rintro e w12 ⟨v129, rfl, ho0, hb⟩; refine ⟨_, rfl, ?_⟩; have n0_ := Aside0.mk (Kd.R_lower ho0 (below_size (by repeat (first | (with_reducible first | exact HB.out | apply below_alloc | apply pw_below_drewN | apply below_drew1) | exact HB.out)))); have n1_ := Aside0.mk (below_step (by repeat (first | (with_reducible first | exact HB.out | apply below_alloc | apply pw_below_drewN | apply below_drew1) | exact HB.out)) hb); clear HB; have HO130 := n0_; have HB := n1_; clear n0_ n1_; (try clear hb); (try clear hb2); (try clear hk); (try clear hi); (try clear ho0); obtain ⟨Ao13, co13, eo13⟩ := Kd.R_slice HO130.out; subst eo13; have p131 : 0 ≤ (0 : Int) := (by omega); have q131 : 0 < (t128.length : Int) := of_decide_eq_true (by first | (with_reducible assumption) | assumption); obtain ⟨ad131, e131, hx131_0⟩ := Kd.at_int (Kd.R_reads' HO130.out).2.2 0 p131 q131; cases e131; have qi131 : (0 < t128.length) = True := eq_true (by omega); (try rw [show ((0 : Int)).toNat = 0 from rfl] at hx131_0); (try rw [Addr.add_zero'] at hx131_0); replace p131 := eq_true p131; replace q131 := eq_true q131))
     all_goals try (first | exact absurd (of_decide_eq_true c3b1) (by assumption) | exact absurd (of_decide_eq_true c4b1) (by assumption) | exact absurd (of_decide_eq_true c10b0) (by assumption) | exact absurd (of_decide_eq_true c10b1) (by assumption))
     go_ret
     exact ⟨by first | rfl | (simp [errW_none, errW_some] <;> rfl) | (simp only [← hji2]; first | rfl | (simp [errW_none, errW_some] <;> rfl)) | (simp [*, errW_none, errW_some] <;> rfl), by repeat (first | (with_reducible first | exact HB.out | apply below_alloc | apply pw_below_drewN | apply below_drew1) | exact HB.out)⟩
    ·rw [if_neg c10] at H
     exact absurd H (by simp)
  ·rw [if_neg c4] at H
   exact absurd H (by simp)
 ·rw [if_neg c3] at H
  exact absurd H (by simp)

/-! ### who_Status: function 40 -/
def who_Status.bit (a b : Int) (l : List Bool) (x : Int) : Option Bool := (window_Place.f a b x).bind fun q => if q.2 = true then (if 0 ≤ q.1 ∧ q.1 < (l.length : Int) then some (rdOf false l q.1) else none) else some false
def who_Status.f (k : Nat) (a0_0 a0_1 a0_2 a0_3 a0_4 a0_5 a0_6 a0_7 a0_8 a0_9 : Int) (l0_10 l0_11 : List Bool) (l0_12 l0_13 : List Int) (a1 : Int) : Option Int :=
  (file_Right.f a0_0 a0_1 a0_2 a0_3 a0_4 a0_5 a0_6 a0_7 a0_8 a0_9 l0_10 l0_11 l0_12 l0_13).bind fun ok => if ok = true then (if a1 < -8 then some 0 else if a1 > 65535 then some 0 else
    (who_Status.bit a0_0 a0_1 l0_10 a1).bind fun b0 => (who_Status.bit a0_0 a0_1 l0_10 (a1 + 1)).bind fun b1 => (who_Status.bit a0_0 a0_1 l0_10 (a1 + 2)).bind fun b2 => (who_Status.bit a0_0 a0_1 l0_10 (a1 + 3)).bind fun b3 => (who_Status.bit a0_0 a0_1 l0_10 (a1 + 4)).bind fun b4 => (who_Status.bit a0_0 a0_1 l0_10 (a1 + 5)).bind fun b5 => (who_Status.bit a0_0 a0_1 l0_10 (a1 + 6)).bind fun b6 => (who_Status.bit a0_0 a0_1 l0_10 (a1 + 7)).bind fun b7 => bits_Flags.f k [b0, b1, b2, b3, b4, b5, b6, b7]) else some 0
theorem who_Status.mono : ∀ y0 y1 y2 y3 y4 y5 y6 y7 y8 y9 y10 y11 y12 y13 y14 k, LeO (who_Status.f k y0 y1 y2 y3 y4 y5 y6 y7 y8 y9 y10 y11 y12 y13 y14) (who_Status.f (k + 1) y0 y1 y2 y3 y4 y5 y6 y7 y8 y9 y10 y11 y12 y13 y14) := by
  intro y0 y1 y2 y3 y4 y5 y6 y7 y8 y9 y10 y11 y12 y13 y14 k
  unfold who_Status.f
  repeat' first
    | (with_reducible exact bits_Flags.mono _ _)
    | (with_reducible exact LeO.refl _)
    | (with_reducible exact LeO.none _)
    | (with_reducible refine LeO.ite ?_ ?_)
    | (with_reducible refine LeO.bind ?_ (fun _ => ?_))
theorem who_Status.info : (Try.prog.info? 4).map (fun i => (i.zero, i.size, i.bytes)) = some (some (.bool false), 1, 1) := by kernel_rfl
set_option maxHeartbeats 4000000 in
set_option maxRecDepth 100000 in
/-- The method: whether a coil is there, and true. -/
theorem who_Status.set (g : Nat) (a0 a1 a2 a3 a4 a5 a6 a7 a8 a9 : Int) (A10 A11 A12 A13 : Option Addr) (c10 c11 c12 c13 : Nat) (l10 l11 : List Bool) (l12 l13 : List Int) (x : Int) (r : Bool) (W : World)
    (hg : W.heap[g]? = some (.cells #[.int .i64 a0, .int .i64 a1, .int .i64 a2, .int .i64 a3, .int .i64 a4, .int .i64 a5, .int .i64 a6, .int .i64 a7, .int .i64 a8, .int .i64 a9, .slice A10 l10.length c10, .slice A11 l11.length c11, .slice A12 l12.length c12, .slice A13 l13.length c13] 102 (0, 0))) (hr : Kd.C Kd.bool W A10 l10.length l10) (h : who_Status.bit a0 a1 l10 x = some r) :
    Calls Try.prog 68 #[.pointer (some ⟨g, 0, none⟩), .int .i64 x] W fun e w' => e = .returned (.bool r) ∧ Below W.heap.size W w' := by
  have hu1 := Try.underlying102
  have hu2 := Try.underlying58
  have hu3 := Try.underlying60
  have hlt := blk_lt hg
  have hc0 : W.cell? ⟨g, 0, none⟩ = some (.int .i64 a0) := (blk_cell hg 0).trans rfl
  have hc1 : W.cell? ⟨g, 1, none⟩ = some (.int .i64 a1) := (blk_cell hg 1).trans rfl
  have GG := Aside0.mk hg
  have HR := Aside0.mk hr
  clear hg hr
  unfold who_Status.bit at h
  replace h := Option.bind_eq_some_iff.1 h
  obtain ⟨⟨p, ok⟩, hp, h⟩ := h
  have HP := Aside0.mk hp
  clear hp
  cases ok with
  | false =>
    simp only [Bool.false_eq_true, if_false, Option.some.injEq] at h
    subst h
    go_enter Try.func68, Try.ntmps68
    go_wp2_with (first | (go_at_call 85; refine (window_Place.calls a0 a1 x p false _ HP.out).mono ?_; rintro e w1 ⟨rfl, hb1⟩; have HB1 := Aside0.mk hb1; clear hb1))
    go_ret
    exact ⟨rfl, HB1.out⟩
  | true =>
    simp only [if_true] at h
    by_cases hi : 0 ≤ p ∧ p < (l10.length : Int)
    · rw [if_pos hi] at h
      obtain rfl := Option.some.inj h
      clear h
      have q1 := hi.1
      have q2 := hi.2
      clear hi
      obtain ⟨ad, ea, hx⟩ := Kd.at_bool HR.out p q1 q2
      subst ea
      have HX := Aside0.mk hx
      clear hx
      go_enter Try.func68, Try.ntmps68
      go_wp2_with (first | (go_at_call 85; refine (window_Place.calls a0 a1 x p true _ HP.out).mono ?_; rintro e w1 ⟨rfl, hb1⟩; have HB1 := Aside0.mk hb1; have GG1 := blk_below GG.out hb1; have hc10 : w1.cell? ⟨g, 10, none⟩ = some (.slice (some ad) l10.length c10) := (blk_cell GG1 10).trans rfl; have hx1 := (hb1.cell (World.block_lt_of_cell? _ _ HX.out)).trans HX.out; clear hb1 GG1))
      go_ret
      exact ⟨rfl, HB1.out⟩
    · rw [if_neg hi] at h
      cases h
set_option maxHeartbeats 8000000 in
set_option maxRecDepth 100000 in
theorem who_Status.calls (k : Nat) (a0_0 : Int) (a0_1 : Int) (a0_2 : Int) (a0_3 : Int) (a0_4 : Int) (a0_5 : Int) (a0_6 : Int) (a0_7 : Int) (a0_8 : Int) (a0_9 : Int) (A0_10 : Option Addr) (c0_10 : Nat) (l0_10 : List Bool) (A0_11 : Option Addr) (c0_11 : Nat) (l0_11 : List Bool) (A0_12 : Option Addr) (c0_12 : Nat) (l0_12 : List Int) (A0_13 : Option Addr) (c0_13 : Nat) (l0_13 : List Int) (a1 : Int) (r : Int) (w : World) (hr0_10 : Kd.C Kd.bool w A0_10 l0_10.length l0_10) (hc0_10 : l0_10.length ≤ c0_10) (hr0_11 : Kd.C Kd.bool w A0_11 l0_11.length l0_11) (hc0_11 : l0_11.length ≤ c0_11) (hr0_12 : Kd.C (Kd.int .u16) w A0_12 l0_12.length l0_12) (hc0_12 : l0_12.length ≤ c0_12) (hr0_13 : Kd.C (Kd.int .u16) w A0_13 l0_13.length l0_13) (hc0_13 : l0_13.length ≤ c0_13) (h : who_Status.f k a0_0 a0_1 a0_2 a0_3 a0_4 a0_5 a0_6 a0_7 a0_8 a0_9 l0_10 l0_11 l0_12 l0_13 a1 = some r) :
    Calls Try.prog 40 #[.agg #[.int .i64 a0_0, .int .i64 a0_1, .int .i64 a0_2, .int .i64 a0_3, .int .i64 a0_4, .int .i64 a0_5, .int .i64 a0_6, .int .i64 a0_7, .int .i64 a0_8, .int .i64 a0_9, .slice A0_10 l0_10.length c0_10, .slice A0_11 l0_11.length c0_11, .slice A0_12 l0_12.length c0_12, .slice A0_13 l0_13.length c0_13], .int .i64 a1] w fun e w' => e = .returned (.int .u8 r) ∧ Below w.heap.size w w' := by
  have hu1 := Try.underlying62
  have hu2 := Try.underlying102
  have HR10 := Aside0.mk hr0_10
  have HC10 := Aside0.mk hc0_10
  clear hr0_10 hc0_10
  have HR11 := Aside0.mk hr0_11
  have HC11 := Aside0.mk hc0_11
  clear hr0_11 hc0_11
  have HR12 := Aside0.mk hr0_12
  have HC12 := Aside0.mk hc0_12
  clear hr0_12 hc0_12
  have HR13 := Aside0.mk hr0_13
  have HC13 := Aside0.mk hc0_13
  clear hr0_13 hc0_13
  unfold who_Status.f at h
  replace h := Option.bind_eq_some_iff.1 h
  obtain ⟨ok, hA, h⟩ := h
  have HA := Aside0.mk hA
  clear hA
  cases ok with
  | false =>
    simp only [Bool.false_eq_true, if_false, Option.some.injEq] at h
    subst h
    go_enter Try.func40, Try.ntmps40
    go_wp2_with (first | (go_at_call 44; refine (file_Right.calls a0_0 a0_1 a0_2 a0_3 a0_4 a0_5 a0_6 a0_7 a0_8 a0_9 A0_10 c0_10 l0_10 A0_11 c0_11 l0_11 A0_12 c0_12 l0_12 A0_13 c0_13 l0_13 false _ (Kd.C_below HR10.out (below_alloc (Below.refl _ _) _)) HC10.out (Kd.C_below HR11.out (below_alloc (Below.refl _ _) _)) HC11.out (Kd.C_below HR12.out (below_alloc (Below.refl _ _) _)) HC12.out (Kd.C_below HR13.out (below_alloc (Below.refl _ _) _)) HC13.out HA.out).mono ?_; rintro e w1 ⟨rfl, hb1⟩; have HB1 := Aside0.mk (below_step (below_alloc (Below.refl w.heap.size w) _) hb1); have GG := Aside0.mk (blk_below (blk_new w (.cells #[.int .i64 a0_0, .int .i64 a0_1, .int .i64 a0_2, .int .i64 a0_3, .int .i64 a0_4, .int .i64 a0_5, .int .i64 a0_6, .int .i64 a0_7, .int .i64 a0_8, .int .i64 a0_9, .slice A0_10 l0_10.length c0_10, .slice A0_11 l0_11.length c0_11, .slice A0_12 l0_12.length c0_12, .slice A0_13 l0_13.length c0_13] 62)) hb1); clear hb1; have hq0 : w1.cell? ⟨w.heap.size, 0, none⟩ = some (.int .i64 a0_0) := (blk_cell GG.out 0).trans rfl; have hq1 : w1.cell? ⟨w.heap.size, 1, none⟩ = some (.int .i64 a0_1) := (blk_cell GG.out 1).trans rfl; have hq2 : w1.cell? ⟨w.heap.size, 2, none⟩ = some (.int .i64 a0_2) := (blk_cell GG.out 2).trans rfl; have hq3 : w1.cell? ⟨w.heap.size, 3, none⟩ = some (.int .i64 a0_3) := (blk_cell GG.out 3).trans rfl; have hq4 : w1.cell? ⟨w.heap.size, 4, none⟩ = some (.int .i64 a0_4) := (blk_cell GG.out 4).trans rfl; have hq5 : w1.cell? ⟨w.heap.size, 5, none⟩ = some (.int .i64 a0_5) := (blk_cell GG.out 5).trans rfl; have hq6 : w1.cell? ⟨w.heap.size, 6, none⟩ = some (.int .i64 a0_6) := (blk_cell GG.out 6).trans rfl; have hq7 : w1.cell? ⟨w.heap.size, 7, none⟩ = some (.int .i64 a0_7) := (blk_cell GG.out 7).trans rfl; have hq8 : w1.cell? ⟨w.heap.size, 8, none⟩ = some (.int .i64 a0_8) := (blk_cell GG.out 8).trans rfl; have hq9 : w1.cell? ⟨w.heap.size, 9, none⟩ = some (.int .i64 a0_9) := (blk_cell GG.out 9).trans rfl; have hq10 : w1.cell? ⟨w.heap.size, 10, none⟩ = some (.slice A0_10 l0_10.length c0_10) := (blk_cell GG.out 10).trans rfl; have hq11 : w1.cell? ⟨w.heap.size, 11, none⟩ = some (.slice A0_11 l0_11.length c0_11) := (blk_cell GG.out 11).trans rfl; have hq12 : w1.cell? ⟨w.heap.size, 12, none⟩ = some (.slice A0_12 l0_12.length c0_12) := (blk_cell GG.out 12).trans rfl; have hq13 : w1.cell? ⟨w.heap.size, 13, none⟩ = some (.slice A0_13 l0_13.length c0_13) := (blk_cell GG.out 13).trans rfl; skip))
    go_ret
    exact ⟨rfl, HB1.out⟩
  | true =>
    simp only [if_true] at h
    by_cases c1 : a1 < -8
    · rw [if_pos c1] at h
      replace h := Option.some.inj h
      have d1 : decide (a1 < -8) = true := decide_eq_true c1
      clear c1
      subst h
      go_enter Try.func40, Try.ntmps40
      go_wp2_with (first | (go_at_call 44; refine (file_Right.calls a0_0 a0_1 a0_2 a0_3 a0_4 a0_5 a0_6 a0_7 a0_8 a0_9 A0_10 c0_10 l0_10 A0_11 c0_11 l0_11 A0_12 c0_12 l0_12 A0_13 c0_13 l0_13 true _ (Kd.C_below HR10.out (below_alloc (Below.refl _ _) _)) HC10.out (Kd.C_below HR11.out (below_alloc (Below.refl _ _) _)) HC11.out (Kd.C_below HR12.out (below_alloc (Below.refl _ _) _)) HC12.out (Kd.C_below HR13.out (below_alloc (Below.refl _ _) _)) HC13.out HA.out).mono ?_; rintro e w1 ⟨rfl, hb1⟩; have HB1 := Aside0.mk (below_step (below_alloc (Below.refl w.heap.size w) _) hb1); have GG := Aside0.mk (blk_below (blk_new w (.cells #[.int .i64 a0_0, .int .i64 a0_1, .int .i64 a0_2, .int .i64 a0_3, .int .i64 a0_4, .int .i64 a0_5, .int .i64 a0_6, .int .i64 a0_7, .int .i64 a0_8, .int .i64 a0_9, .slice A0_10 l0_10.length c0_10, .slice A0_11 l0_11.length c0_11, .slice A0_12 l0_12.length c0_12, .slice A0_13 l0_13.length c0_13] 62)) hb1); clear hb1; have hq0 : w1.cell? ⟨w.heap.size, 0, none⟩ = some (.int .i64 a0_0) := (blk_cell GG.out 0).trans rfl; have hq1 : w1.cell? ⟨w.heap.size, 1, none⟩ = some (.int .i64 a0_1) := (blk_cell GG.out 1).trans rfl; have hq2 : w1.cell? ⟨w.heap.size, 2, none⟩ = some (.int .i64 a0_2) := (blk_cell GG.out 2).trans rfl; have hq3 : w1.cell? ⟨w.heap.size, 3, none⟩ = some (.int .i64 a0_3) := (blk_cell GG.out 3).trans rfl; have hq4 : w1.cell? ⟨w.heap.size, 4, none⟩ = some (.int .i64 a0_4) := (blk_cell GG.out 4).trans rfl; have hq5 : w1.cell? ⟨w.heap.size, 5, none⟩ = some (.int .i64 a0_5) := (blk_cell GG.out 5).trans rfl; have hq6 : w1.cell? ⟨w.heap.size, 6, none⟩ = some (.int .i64 a0_6) := (blk_cell GG.out 6).trans rfl; have hq7 : w1.cell? ⟨w.heap.size, 7, none⟩ = some (.int .i64 a0_7) := (blk_cell GG.out 7).trans rfl; have hq8 : w1.cell? ⟨w.heap.size, 8, none⟩ = some (.int .i64 a0_8) := (blk_cell GG.out 8).trans rfl; have hq9 : w1.cell? ⟨w.heap.size, 9, none⟩ = some (.int .i64 a0_9) := (blk_cell GG.out 9).trans rfl; have hq10 : w1.cell? ⟨w.heap.size, 10, none⟩ = some (.slice A0_10 l0_10.length c0_10) := (blk_cell GG.out 10).trans rfl; have hq11 : w1.cell? ⟨w.heap.size, 11, none⟩ = some (.slice A0_11 l0_11.length c0_11) := (blk_cell GG.out 11).trans rfl; have hq12 : w1.cell? ⟨w.heap.size, 12, none⟩ = some (.slice A0_12 l0_12.length c0_12) := (blk_cell GG.out 12).trans rfl; have hq13 : w1.cell? ⟨w.heap.size, 13, none⟩ = some (.slice A0_13 l0_13.length c0_13) := (blk_cell GG.out 13).trans rfl; skip))
      go_ret
      exact ⟨rfl, HB1.out⟩
    · rw [if_neg c1] at h
      have d1 : decide (a1 < -8) = false := decide_eq_false c1
      by_cases c2 : a1 > 65535
      · rw [if_pos c2] at h
        replace h := Option.some.inj h
        have d2 : decide (a1 > 65535) = true := decide_eq_true c2
        clear c1 c2
        subst h
        go_enter Try.func40, Try.ntmps40
        go_wp2_with (first | (go_at_call 44; refine (file_Right.calls a0_0 a0_1 a0_2 a0_3 a0_4 a0_5 a0_6 a0_7 a0_8 a0_9 A0_10 c0_10 l0_10 A0_11 c0_11 l0_11 A0_12 c0_12 l0_12 A0_13 c0_13 l0_13 true _ (Kd.C_below HR10.out (below_alloc (Below.refl _ _) _)) HC10.out (Kd.C_below HR11.out (below_alloc (Below.refl _ _) _)) HC11.out (Kd.C_below HR12.out (below_alloc (Below.refl _ _) _)) HC12.out (Kd.C_below HR13.out (below_alloc (Below.refl _ _) _)) HC13.out HA.out).mono ?_; rintro e w1 ⟨rfl, hb1⟩; have HB1 := Aside0.mk (below_step (below_alloc (Below.refl w.heap.size w) _) hb1); have GG := Aside0.mk (blk_below (blk_new w (.cells #[.int .i64 a0_0, .int .i64 a0_1, .int .i64 a0_2, .int .i64 a0_3, .int .i64 a0_4, .int .i64 a0_5, .int .i64 a0_6, .int .i64 a0_7, .int .i64 a0_8, .int .i64 a0_9, .slice A0_10 l0_10.length c0_10, .slice A0_11 l0_11.length c0_11, .slice A0_12 l0_12.length c0_12, .slice A0_13 l0_13.length c0_13] 62)) hb1); clear hb1; have hq0 : w1.cell? ⟨w.heap.size, 0, none⟩ = some (.int .i64 a0_0) := (blk_cell GG.out 0).trans rfl; have hq1 : w1.cell? ⟨w.heap.size, 1, none⟩ = some (.int .i64 a0_1) := (blk_cell GG.out 1).trans rfl; have hq2 : w1.cell? ⟨w.heap.size, 2, none⟩ = some (.int .i64 a0_2) := (blk_cell GG.out 2).trans rfl; have hq3 : w1.cell? ⟨w.heap.size, 3, none⟩ = some (.int .i64 a0_3) := (blk_cell GG.out 3).trans rfl; have hq4 : w1.cell? ⟨w.heap.size, 4, none⟩ = some (.int .i64 a0_4) := (blk_cell GG.out 4).trans rfl; have hq5 : w1.cell? ⟨w.heap.size, 5, none⟩ = some (.int .i64 a0_5) := (blk_cell GG.out 5).trans rfl; have hq6 : w1.cell? ⟨w.heap.size, 6, none⟩ = some (.int .i64 a0_6) := (blk_cell GG.out 6).trans rfl; have hq7 : w1.cell? ⟨w.heap.size, 7, none⟩ = some (.int .i64 a0_7) := (blk_cell GG.out 7).trans rfl; have hq8 : w1.cell? ⟨w.heap.size, 8, none⟩ = some (.int .i64 a0_8) := (blk_cell GG.out 8).trans rfl; have hq9 : w1.cell? ⟨w.heap.size, 9, none⟩ = some (.int .i64 a0_9) := (blk_cell GG.out 9).trans rfl; have hq10 : w1.cell? ⟨w.heap.size, 10, none⟩ = some (.slice A0_10 l0_10.length c0_10) := (blk_cell GG.out 10).trans rfl; have hq11 : w1.cell? ⟨w.heap.size, 11, none⟩ = some (.slice A0_11 l0_11.length c0_11) := (blk_cell GG.out 11).trans rfl; have hq12 : w1.cell? ⟨w.heap.size, 12, none⟩ = some (.slice A0_12 l0_12.length c0_12) := (blk_cell GG.out 12).trans rfl; have hq13 : w1.cell? ⟨w.heap.size, 13, none⟩ = some (.slice A0_13 l0_13.length c0_13) := (blk_cell GG.out 13).trans rfl; skip))
        go_ret
        exact ⟨rfl, HB1.out⟩
      · rw [if_neg c2] at h
        have d2 : decide (a1 > 65535) = false := decide_eq_false c2
        replace h := Option.bind_eq_some_iff.1 h
        obtain ⟨b0, hb_, h⟩ := h
        have K0 := Aside0.mk hb_
        clear hb_
        replace h := Option.bind_eq_some_iff.1 h
        obtain ⟨b1, hb_, h⟩ := h
        have K1 := Aside0.mk hb_
        clear hb_
        replace h := Option.bind_eq_some_iff.1 h
        obtain ⟨b2, hb_, h⟩ := h
        have K2 := Aside0.mk hb_
        clear hb_
        replace h := Option.bind_eq_some_iff.1 h
        obtain ⟨b3, hb_, h⟩ := h
        have K3 := Aside0.mk hb_
        clear hb_
        replace h := Option.bind_eq_some_iff.1 h
        obtain ⟨b4, hb_, h⟩ := h
        have K4 := Aside0.mk hb_
        clear hb_
        replace h := Option.bind_eq_some_iff.1 h
        obtain ⟨b5, hb_, h⟩ := h
        have K5 := Aside0.mk hb_
        clear hb_
        replace h := Option.bind_eq_some_iff.1 h
        obtain ⟨b6, hb_, h⟩ := h
        have K6 := Aside0.mk hb_
        clear hb_
        replace h := Option.bind_eq_some_iff.1 h
        obtain ⟨b7, hb_, h⟩ := h
        have K7 := Aside0.mk hb_
        clear hb_
        have HF := Aside0.mk h
        clear h
        have E0 : Aside0 (IntKind.i64.wrap (a1) = a1) := ⟨IntWalk.i64_in _ (by omega)⟩
        have E1 : Aside0 (IntKind.i64.wrap (a1 + 1) = a1 + 1) := ⟨IntWalk.i64_in _ (by omega)⟩
        have E2 : Aside0 (IntKind.i64.wrap (a1 + 2) = a1 + 2) := ⟨IntWalk.i64_in _ (by omega)⟩
        have E3 : Aside0 (IntKind.i64.wrap (a1 + 3) = a1 + 3) := ⟨IntWalk.i64_in _ (by omega)⟩
        have E4 : Aside0 (IntKind.i64.wrap (a1 + 4) = a1 + 4) := ⟨IntWalk.i64_in _ (by omega)⟩
        have E5 : Aside0 (IntKind.i64.wrap (a1 + 5) = a1 + 5) := ⟨IntWalk.i64_in _ (by omega)⟩
        have E6 : Aside0 (IntKind.i64.wrap (a1 + 6) = a1 + 6) := ⟨IntWalk.i64_in _ (by omega)⟩
        have E7 : Aside0 (IntKind.i64.wrap (a1 + 7) = a1 + 7) := ⟨IntWalk.i64_in _ (by omega)⟩
        clear c1 c2
        go_enter Try.func40, Try.ntmps40
        go_wp2_with (first | (go_at_call 44; refine (file_Right.calls a0_0 a0_1 a0_2 a0_3 a0_4 a0_5 a0_6 a0_7 a0_8 a0_9 A0_10 c0_10 l0_10 A0_11 c0_11 l0_11 A0_12 c0_12 l0_12 A0_13 c0_13 l0_13 true _ (Kd.C_below HR10.out (below_alloc (Below.refl _ _) _)) HC10.out (Kd.C_below HR11.out (below_alloc (Below.refl _ _) _)) HC11.out (Kd.C_below HR12.out (below_alloc (Below.refl _ _) _)) HC12.out (Kd.C_below HR13.out (below_alloc (Below.refl _ _) _)) HC13.out HA.out).mono ?_; rintro e w1 ⟨rfl, hb1⟩; have HB1 := Aside0.mk (below_step (below_alloc (Below.refl w.heap.size w) _) hb1); have GG := Aside0.mk (blk_below (blk_new w (.cells #[.int .i64 a0_0, .int .i64 a0_1, .int .i64 a0_2, .int .i64 a0_3, .int .i64 a0_4, .int .i64 a0_5, .int .i64 a0_6, .int .i64 a0_7, .int .i64 a0_8, .int .i64 a0_9, .slice A0_10 l0_10.length c0_10, .slice A0_11 l0_11.length c0_11, .slice A0_12 l0_12.length c0_12, .slice A0_13 l0_13.length c0_13] 62)) hb1); clear hb1; have hq0 : w1.cell? ⟨w.heap.size, 0, none⟩ = some (.int .i64 a0_0) := (blk_cell GG.out 0).trans rfl; have hq1 : w1.cell? ⟨w.heap.size, 1, none⟩ = some (.int .i64 a0_1) := (blk_cell GG.out 1).trans rfl; have hq2 : w1.cell? ⟨w.heap.size, 2, none⟩ = some (.int .i64 a0_2) := (blk_cell GG.out 2).trans rfl; have hq3 : w1.cell? ⟨w.heap.size, 3, none⟩ = some (.int .i64 a0_3) := (blk_cell GG.out 3).trans rfl; have hq4 : w1.cell? ⟨w.heap.size, 4, none⟩ = some (.int .i64 a0_4) := (blk_cell GG.out 4).trans rfl; have hq5 : w1.cell? ⟨w.heap.size, 5, none⟩ = some (.int .i64 a0_5) := (blk_cell GG.out 5).trans rfl; have hq6 : w1.cell? ⟨w.heap.size, 6, none⟩ = some (.int .i64 a0_6) := (blk_cell GG.out 6).trans rfl; have hq7 : w1.cell? ⟨w.heap.size, 7, none⟩ = some (.int .i64 a0_7) := (blk_cell GG.out 7).trans rfl; have hq8 : w1.cell? ⟨w.heap.size, 8, none⟩ = some (.int .i64 a0_8) := (blk_cell GG.out 8).trans rfl; have hq9 : w1.cell? ⟨w.heap.size, 9, none⟩ = some (.int .i64 a0_9) := (blk_cell GG.out 9).trans rfl; have hq10 : w1.cell? ⟨w.heap.size, 10, none⟩ = some (.slice A0_10 l0_10.length c0_10) := (blk_cell GG.out 10).trans rfl; have hq11 : w1.cell? ⟨w.heap.size, 11, none⟩ = some (.slice A0_11 l0_11.length c0_11) := (blk_cell GG.out 11).trans rfl; have hq12 : w1.cell? ⟨w.heap.size, 12, none⟩ = some (.slice A0_12 l0_12.length c0_12) := (blk_cell GG.out 12).trans rfl; have hq13 : w1.cell? ⟨w.heap.size, 13, none⟩ = some (.slice A0_13 l0_13.length c0_13) := (blk_cell GG.out 13).trans rfl; skip) | ((with_reducible refine gate_dst (N := 22) rfl ?_); refine Kd.R_make Kd.bool w.heap.size 4 rfl (N := 22) rfl 22 _ _ rfl 8 rfl rfl Try.underlying22 (.bool false) 1 who_Status.info rfl (by decide) (by omega) false (ok := fun k_ => w1.heap.size < k_) (okp := fun _ => False) rfl (fun _ hk => ?q0) ?q1 ?q2 ?q3 (below_alloc HB1.out _) (below_size (below_alloc HB1.out _)) ?_; (case q0 => exact hk.elim); (case q1 => simp); (case q2 => decide); (case q3 => decide); intro v1 w3 ho hb hg _; have HO := Aside0.mk ho; have HBm := Aside0.mk hb; have GG2 := Aside0.mk (blk_grown (blk_new w1 (.cells #[.int .i64 a0_0, .int .i64 a0_1, .int .i64 a0_2, .int .i64 a0_3, .int .i64 a0_4, .int .i64 a0_5, .int .i64 a0_6, .int .i64 a0_7, .int .i64 a0_8, .int .i64 a0_9, .slice A0_10 l0_10.length c0_10, .slice A0_11 l0_11.length c0_11, .slice A0_12 l0_12.length c0_12, .slice A0_13 l0_13.length c0_13] 102)) hg (by simp)); clear ho hb hg; obtain ⟨Av, cv, ev⟩ := Kd.R_slice HO.out; subst ev; simp only [Int.reduceToNat, List.length_replicate] at HO ⊢))
        have RW : ∃ rowOf : Int → List Bool, rowOf 0 = [false, false, false, false, false, false, false, false] ∧ rowOf 1 = [b0, false, false, false, false, false, false, false] ∧ rowOf 2 = [b0, b1, false, false, false, false, false, false] ∧ rowOf 3 = [b0, b1, b2, false, false, false, false, false] ∧ rowOf 4 = [b0, b1, b2, b3, false, false, false, false] ∧ rowOf 5 = [b0, b1, b2, b3, b4, false, false, false] ∧ rowOf 6 = [b0, b1, b2, b3, b4, b5, false, false] ∧ rowOf 7 = [b0, b1, b2, b3, b4, b5, b6, false] ∧ rowOf 8 = [b0, b1, b2, b3, b4, b5, b6, b7] := ⟨fun k => if k = 0 then [false, false, false, false, false, false, false, false] else if k = 1 then [b0, false, false, false, false, false, false, false] else if k = 2 then [b0, b1, false, false, false, false, false, false] else if k = 3 then [b0, b1, b2, false, false, false, false, false] else if k = 4 then [b0, b1, b2, b3, false, false, false, false] else if k = 5 then [b0, b1, b2, b3, b4, false, false, false] else if k = 6 then [b0, b1, b2, b3, b4, b5, false, false] else if k = 7 then [b0, b1, b2, b3, b4, b5, b6, false] else [b0, b1, b2, b3, b4, b5, b6, b7], by simp⟩
        obtain ⟨rowOf, W0, W1, W2, W3, W4, W5, W6, W7, W8⟩ := RW
        have ha : HO = HO := rfl
        clear ha
        go_loopw [8, 25, 26, 27, 28, 29, 30, 31, 32, 33, 34, 35, 36] (fun v8 v25 v26 v27 v28 v29 v30 v31 v32 v33 v34 v35 v36 wr => ∃ k : Int, (k = 0 ∨ k = 1 ∨ k = 2 ∨ k = 3 ∨ k = 4 ∨ k = 5 ∨ k = 6 ∨ k = 7 ∨ k = 8) ∧ v25 = .int .i64 k ∧ Aside0 (wr.heap[w1.heap.size]? = some (.cells #[.int .i64 a0_0, .int .i64 a0_1, .int .i64 a0_2, .int .i64 a0_3, .int .i64 a0_4, .int .i64 a0_5, .int .i64 a0_6, .int .i64 a0_7, .int .i64 a0_8, .int .i64 a0_9, .slice A0_10 l0_10.length c0_10, .slice A0_11 l0_11.length c0_11, .slice A0_12 l0_12.length c0_12, .slice A0_13 l0_13.length c0_13] 102 (0, 0))) ∧ Aside0 (Kd.R Kd.bool 4 wr w.heap.size (fun k_ => w1.heap.size < k_) (.slice Av 8 cv) (rowOf k)) ∧ Aside0 (Below w.heap.size w wr)) (fun _ v25 _ _ _ _ _ _ _ _ _ _ _ _ => 8 - (intOf v25).toNat)
        case atStart => exact ⟨0, .inl rfl, rfl, GG2, ⟨by rw [W0]; exact HO.out⟩, HBm⟩
        case round =>
          clear HO GG2 HBm
          obtain ⟨k_, hk, rfl, GG, HO, HB⟩ := hrel
          obtain rfl | rfl | rfl | rfl | rfl | rfl | rfl | rfl | rfl := hk
          · rw [W0] at HO
            have w_ := E0.out
            obtain ⟨go, co, eo, gb, gl, cl, HG⟩ := Kd.R_form HO.out (by simp)
            injection eo with e1 e2 e3
            subst e1
            subst e3
            clear e2 HG gl
            go_wp2_with fail
            refine (who_Status.set w1.heap.size a0_0 a0_1 a0_2 a0_3 a0_4 a0_5 a0_6 a0_7 a0_8 a0_9 A0_10 A0_11 A0_12 A0_13 c0_10 c0_11 c0_12 c0_13 l0_10 l0_11 l0_12 l0_13 a1 b0 _ GG.out (Kd.C_below HR10.out HB.out) K0.out).mono ?_
            rintro e w5 ⟨rfl, hb5⟩
            have GG5 := Aside0.mk (blk_below GG.out hb5)
            have HO5 := Aside0.mk (Kd.R_below HO.out hb5)
            have HB5 := Aside0.mk (below_step HB.out hb5)
            clear hb5 GG HO HB
            obtain ⟨hx, hf⟩ := Kd.R_celln false HO5.out 0 (by decide) (by decide)
            replace hx : w5.cell? ⟨go, 0, none⟩ = some (.bool _) := hx
            replace hf : w5.frozen? ⟨go, 0, none⟩ = false := hf
            have HP := Kd.R_putg HO5.out 0 b0
            have hne : w1.heap.size < go := HO5.out.1 go (by simp [Value.ownBlock])
            go_wp2
            go_roundw
            case rel => exact ⟨1, .inr (.inl rfl), by first | rfl | trivial, ⟨blk_far GG5.out (Nat.ne_of_lt hne) _⟩, ⟨by rw [W1]; exact HP.1⟩, ⟨HB5.out.grown HP.2 (below_size HB5.out) (fun q_ hq_ => by cases hq_; exact gb)⟩⟩
            case measure => simp [intOf]
          · rw [W1] at HO
            have w_ := E1.out
            obtain ⟨go, co, eo, gb, gl, cl, HG⟩ := Kd.R_form HO.out (by simp)
            injection eo with e1 e2 e3
            subst e1
            subst e3
            clear e2 HG gl
            go_wp2_with fail
            refine (who_Status.set w1.heap.size a0_0 a0_1 a0_2 a0_3 a0_4 a0_5 a0_6 a0_7 a0_8 a0_9 A0_10 A0_11 A0_12 A0_13 c0_10 c0_11 c0_12 c0_13 l0_10 l0_11 l0_12 l0_13 (a1 + 1) b1 _ GG.out (Kd.C_below HR10.out HB.out) K1.out).mono ?_
            rintro e w5 ⟨rfl, hb5⟩
            have GG5 := Aside0.mk (blk_below GG.out hb5)
            have HO5 := Aside0.mk (Kd.R_below HO.out hb5)
            have HB5 := Aside0.mk (below_step HB.out hb5)
            clear hb5 GG HO HB
            obtain ⟨hx, hf⟩ := Kd.R_celln false HO5.out 1 (by decide) (by decide)
            replace hx : w5.cell? ⟨go, 1, none⟩ = some (.bool _) := hx
            replace hf : w5.frozen? ⟨go, 1, none⟩ = false := hf
            have HP := Kd.R_putg HO5.out 1 b1
            have hne : w1.heap.size < go := HO5.out.1 go (by simp [Value.ownBlock])
            go_wp2
            go_roundw
            case rel => exact ⟨2, .inr (.inr (.inl rfl)), by first | rfl | trivial, ⟨blk_far GG5.out (Nat.ne_of_lt hne) _⟩, ⟨by rw [W2]; exact HP.1⟩, ⟨HB5.out.grown HP.2 (below_size HB5.out) (fun q_ hq_ => by cases hq_; exact gb)⟩⟩
            case measure => simp [intOf]
          · rw [W2] at HO
            have w_ := E2.out
            obtain ⟨go, co, eo, gb, gl, cl, HG⟩ := Kd.R_form HO.out (by simp)
            injection eo with e1 e2 e3
            subst e1
            subst e3
            clear e2 HG gl
            go_wp2_with fail
            refine (who_Status.set w1.heap.size a0_0 a0_1 a0_2 a0_3 a0_4 a0_5 a0_6 a0_7 a0_8 a0_9 A0_10 A0_11 A0_12 A0_13 c0_10 c0_11 c0_12 c0_13 l0_10 l0_11 l0_12 l0_13 (a1 + 2) b2 _ GG.out (Kd.C_below HR10.out HB.out) K2.out).mono ?_
            rintro e w5 ⟨rfl, hb5⟩
            have GG5 := Aside0.mk (blk_below GG.out hb5)
            have HO5 := Aside0.mk (Kd.R_below HO.out hb5)
            have HB5 := Aside0.mk (below_step HB.out hb5)
            clear hb5 GG HO HB
            obtain ⟨hx, hf⟩ := Kd.R_celln false HO5.out 2 (by decide) (by decide)
            replace hx : w5.cell? ⟨go, 2, none⟩ = some (.bool _) := hx
            replace hf : w5.frozen? ⟨go, 2, none⟩ = false := hf
            have HP := Kd.R_putg HO5.out 2 b2
            have hne : w1.heap.size < go := HO5.out.1 go (by simp [Value.ownBlock])
            go_wp2
            go_roundw
            case rel => exact ⟨3, .inr (.inr (.inr (.inl rfl))), by first | rfl | trivial, ⟨blk_far GG5.out (Nat.ne_of_lt hne) _⟩, ⟨by rw [W3]; exact HP.1⟩, ⟨HB5.out.grown HP.2 (below_size HB5.out) (fun q_ hq_ => by cases hq_; exact gb)⟩⟩
            case measure => simp [intOf]
          · rw [W3] at HO
            have w_ := E3.out
            obtain ⟨go, co, eo, gb, gl, cl, HG⟩ := Kd.R_form HO.out (by simp)
            injection eo with e1 e2 e3
            subst e1
            subst e3
            clear e2 HG gl
            go_wp2_with fail
            refine (who_Status.set w1.heap.size a0_0 a0_1 a0_2 a0_3 a0_4 a0_5 a0_6 a0_7 a0_8 a0_9 A0_10 A0_11 A0_12 A0_13 c0_10 c0_11 c0_12 c0_13 l0_10 l0_11 l0_12 l0_13 (a1 + 3) b3 _ GG.out (Kd.C_below HR10.out HB.out) K3.out).mono ?_
            rintro e w5 ⟨rfl, hb5⟩
            have GG5 := Aside0.mk (blk_below GG.out hb5)
            have HO5 := Aside0.mk (Kd.R_below HO.out hb5)
            have HB5 := Aside0.mk (below_step HB.out hb5)
            clear hb5 GG HO HB
            obtain ⟨hx, hf⟩ := Kd.R_celln false HO5.out 3 (by decide) (by decide)
            replace hx : w5.cell? ⟨go, 3, none⟩ = some (.bool _) := hx
            replace hf : w5.frozen? ⟨go, 3, none⟩ = false := hf
            have HP := Kd.R_putg HO5.out 3 b3
            have hne : w1.heap.size < go := HO5.out.1 go (by simp [Value.ownBlock])
            go_wp2
            go_roundw
            case rel => exact ⟨4, .inr (.inr (.inr (.inr (.inl rfl)))), by first | rfl | trivial, ⟨blk_far GG5.out (Nat.ne_of_lt hne) _⟩, ⟨by rw [W4]; exact HP.1⟩, ⟨HB5.out.grown HP.2 (below_size HB5.out) (fun q_ hq_ => by cases hq_; exact gb)⟩⟩
            case measure => simp [intOf]
          · rw [W4] at HO
            have w_ := E4.out
            obtain ⟨go, co, eo, gb, gl, cl, HG⟩ := Kd.R_form HO.out (by simp)
            injection eo with e1 e2 e3
            subst e1
            subst e3
            clear e2 HG gl
            go_wp2_with fail
            refine (who_Status.set w1.heap.size a0_0 a0_1 a0_2 a0_3 a0_4 a0_5 a0_6 a0_7 a0_8 a0_9 A0_10 A0_11 A0_12 A0_13 c0_10 c0_11 c0_12 c0_13 l0_10 l0_11 l0_12 l0_13 (a1 + 4) b4 _ GG.out (Kd.C_below HR10.out HB.out) K4.out).mono ?_
            rintro e w5 ⟨rfl, hb5⟩
            have GG5 := Aside0.mk (blk_below GG.out hb5)
            have HO5 := Aside0.mk (Kd.R_below HO.out hb5)
            have HB5 := Aside0.mk (below_step HB.out hb5)
            clear hb5 GG HO HB
            obtain ⟨hx, hf⟩ := Kd.R_celln false HO5.out 4 (by decide) (by decide)
            replace hx : w5.cell? ⟨go, 4, none⟩ = some (.bool _) := hx
            replace hf : w5.frozen? ⟨go, 4, none⟩ = false := hf
            have HP := Kd.R_putg HO5.out 4 b4
            have hne : w1.heap.size < go := HO5.out.1 go (by simp [Value.ownBlock])
            go_wp2
            go_roundw
            case rel => exact ⟨5, .inr (.inr (.inr (.inr (.inr (.inl rfl))))), by first | rfl | trivial, ⟨blk_far GG5.out (Nat.ne_of_lt hne) _⟩, ⟨by rw [W5]; exact HP.1⟩, ⟨HB5.out.grown HP.2 (below_size HB5.out) (fun q_ hq_ => by cases hq_; exact gb)⟩⟩
            case measure => simp [intOf]
          · rw [W5] at HO
            have w_ := E5.out
            obtain ⟨go, co, eo, gb, gl, cl, HG⟩ := Kd.R_form HO.out (by simp)
            injection eo with e1 e2 e3
            subst e1
            subst e3
            clear e2 HG gl
            go_wp2_with fail
            refine (who_Status.set w1.heap.size a0_0 a0_1 a0_2 a0_3 a0_4 a0_5 a0_6 a0_7 a0_8 a0_9 A0_10 A0_11 A0_12 A0_13 c0_10 c0_11 c0_12 c0_13 l0_10 l0_11 l0_12 l0_13 (a1 + 5) b5 _ GG.out (Kd.C_below HR10.out HB.out) K5.out).mono ?_
            rintro e w5 ⟨rfl, hb5⟩
            have GG5 := Aside0.mk (blk_below GG.out hb5)
            have HO5 := Aside0.mk (Kd.R_below HO.out hb5)
            have HB5 := Aside0.mk (below_step HB.out hb5)
            clear hb5 GG HO HB
            obtain ⟨hx, hf⟩ := Kd.R_celln false HO5.out 5 (by decide) (by decide)
            replace hx : w5.cell? ⟨go, 5, none⟩ = some (.bool _) := hx
            replace hf : w5.frozen? ⟨go, 5, none⟩ = false := hf
            have HP := Kd.R_putg HO5.out 5 b5
            have hne : w1.heap.size < go := HO5.out.1 go (by simp [Value.ownBlock])
            go_wp2
            go_roundw
            case rel => exact ⟨6, .inr (.inr (.inr (.inr (.inr (.inr (.inl rfl)))))), by first | rfl | trivial, ⟨blk_far GG5.out (Nat.ne_of_lt hne) _⟩, ⟨by rw [W6]; exact HP.1⟩, ⟨HB5.out.grown HP.2 (below_size HB5.out) (fun q_ hq_ => by cases hq_; exact gb)⟩⟩
            case measure => simp [intOf]
          · rw [W6] at HO
            have w_ := E6.out
            obtain ⟨go, co, eo, gb, gl, cl, HG⟩ := Kd.R_form HO.out (by simp)
            injection eo with e1 e2 e3
            subst e1
            subst e3
            clear e2 HG gl
            go_wp2_with fail
            refine (who_Status.set w1.heap.size a0_0 a0_1 a0_2 a0_3 a0_4 a0_5 a0_6 a0_7 a0_8 a0_9 A0_10 A0_11 A0_12 A0_13 c0_10 c0_11 c0_12 c0_13 l0_10 l0_11 l0_12 l0_13 (a1 + 6) b6 _ GG.out (Kd.C_below HR10.out HB.out) K6.out).mono ?_
            rintro e w5 ⟨rfl, hb5⟩
            have GG5 := Aside0.mk (blk_below GG.out hb5)
            have HO5 := Aside0.mk (Kd.R_below HO.out hb5)
            have HB5 := Aside0.mk (below_step HB.out hb5)
            clear hb5 GG HO HB
            obtain ⟨hx, hf⟩ := Kd.R_celln false HO5.out 6 (by decide) (by decide)
            replace hx : w5.cell? ⟨go, 6, none⟩ = some (.bool _) := hx
            replace hf : w5.frozen? ⟨go, 6, none⟩ = false := hf
            have HP := Kd.R_putg HO5.out 6 b6
            have hne : w1.heap.size < go := HO5.out.1 go (by simp [Value.ownBlock])
            go_wp2
            go_roundw
            case rel => exact ⟨7, .inr (.inr (.inr (.inr (.inr (.inr (.inr (.inl rfl))))))), by first | rfl | trivial, ⟨blk_far GG5.out (Nat.ne_of_lt hne) _⟩, ⟨by rw [W7]; exact HP.1⟩, ⟨HB5.out.grown HP.2 (below_size HB5.out) (fun q_ hq_ => by cases hq_; exact gb)⟩⟩
            case measure => simp [intOf]
          · rw [W7] at HO
            have w_ := E7.out
            obtain ⟨go, co, eo, gb, gl, cl, HG⟩ := Kd.R_form HO.out (by simp)
            injection eo with e1 e2 e3
            subst e1
            subst e3
            clear e2 HG gl
            go_wp2_with fail
            refine (who_Status.set w1.heap.size a0_0 a0_1 a0_2 a0_3 a0_4 a0_5 a0_6 a0_7 a0_8 a0_9 A0_10 A0_11 A0_12 A0_13 c0_10 c0_11 c0_12 c0_13 l0_10 l0_11 l0_12 l0_13 (a1 + 7) b7 _ GG.out (Kd.C_below HR10.out HB.out) K7.out).mono ?_
            rintro e w5 ⟨rfl, hb5⟩
            have GG5 := Aside0.mk (blk_below GG.out hb5)
            have HO5 := Aside0.mk (Kd.R_below HO.out hb5)
            have HB5 := Aside0.mk (below_step HB.out hb5)
            clear hb5 GG HO HB
            obtain ⟨hx, hf⟩ := Kd.R_celln false HO5.out 7 (by decide) (by decide)
            replace hx : w5.cell? ⟨go, 7, none⟩ = some (.bool _) := hx
            replace hf : w5.frozen? ⟨go, 7, none⟩ = false := hf
            have HP := Kd.R_putg HO5.out 7 b7
            have hne : w1.heap.size < go := HO5.out.1 go (by simp [Value.ownBlock])
            go_wp2
            go_roundw
            case rel => exact ⟨8, .inr (.inr (.inr (.inr (.inr (.inr (.inr (.inr rfl))))))), by first | rfl | trivial, ⟨blk_far GG5.out (Nat.ne_of_lt hne) _⟩, ⟨by rw [W8]; exact HP.1⟩, ⟨HB5.out.grown HP.2 (below_size HB5.out) (fun q_ hq_ => by cases hq_; exact gb)⟩⟩
            case measure => simp [intOf]
          · rw [W8] at HO
            go_wp2_with (first | (go_at_call 27; refine (bits_Flags.calls k (Av) cv [b0, b1, b2, b3, b4, b5, b6, b7] r _ (Kd.R_reads' HO.out).2.2 (Kd.R_reads' HO.out).2.1 HF.out).mono ?_; rintro e w6 ⟨rfl, hb6⟩; have HB6 := Aside0.mk (below_step HB.out hb6); clear hb6))
            go_ret
            exact ⟨rfl, HB6.out⟩

end Go.Proofs.Ytnaedmakkefdfaa.P
