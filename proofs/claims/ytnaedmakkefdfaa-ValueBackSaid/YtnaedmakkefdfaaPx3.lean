-- Written by the session's own turn of the kit's print program (wip/patch_print.py). Not trusted: Lean checks it.
import Derived.Test.YtnaedmakkefdfaaPx0
import Derived.Test.YtnaedmakkefdfaaPx2
namespace Go.Proofs.Ytnaedmakkefdfaa.P
open Go.RowKit Go.Proofs.YtnaedmakkefdfaaW.PrintWords Go.Proofs.YtnaedmakkefdfaaW.PrintLast Go.Proofs.YtnaedmakkefdfaaW.PrintMore
attribute [local go_sem] max2_int min2_int max_two min_two max_three min_three max_four min_four   -- for this text's walks alone
set_option linter.unusedVariables false
set_option linter.unusedSimpArgs false

/-! ### value_Scale: function 34 -/
def value_Scale.ok (x : Int) : Prop := -2147483648 ≤ x ∧ x ≤ 2147483647
instance (x : Int) : Decidable (value_Scale.ok x) := by unfold value_Scale.ok; infer_instance
def value_Scale.res (p b : Int) : Int := if IntKind.i64.wrap (2 * mx (Int.tmod p b) (IntKind.i64.wrap (-(Int.tmod p b)))) ≥ mx b (IntKind.i64.wrap (-b)) then (if decide (p < 0) = decide (b < 0) then IntKind.i64.wrap (IntKind.i64.wrap (Int.tdiv p b) + 1) else IntKind.i64.wrap (IntKind.i64.wrap (Int.tdiv p b) - 1)) else IntKind.i64.wrap (Int.tdiv p b)
def value_Scale.f (a0 a1 a2 : Int) : Option (Int × Int) := some (if value_Scale.ok a0 ∧ value_Scale.ok a1 ∧ value_Scale.ok a2 then (if a2 = 0 then (0, 11) else (value_Scale.res (IntKind.i64.wrap (a0 * a1)) a2, 0)) else (0, 11))
theorem value_Scale.in_ {x : Int} (h : value_Scale.ok x) : decide (x < -2147483648) = false ∧ decide (x > 2147483647) = false := by
  unfold value_Scale.ok at h
  exact ⟨decide_eq_false (by omega), decide_eq_false (by omega)⟩
theorem value_Scale.out_ {x : Int} (h : ¬ value_Scale.ok x) : decide (x < -2147483648) = true ∨ decide (x < -2147483648) = false ∧ decide (x > 2147483647) = true := by
  unfold value_Scale.ok at h
  by_cases h1 : x < -2147483648
  · exact .inl (decide_eq_true h1)
  · exact .inr ⟨decide_eq_false h1, decide_eq_true (by omega)⟩
theorem value_Scale.up {p b : Int} (h1 : (if b < wrap64 (-b) then wrap64 (-b) else b) ≤ wrap64 (2 * (if Int.tmod p b < wrap64 (-(Int.tmod p b)) then wrap64 (-(Int.tmod p b)) else Int.tmod p b))) (h2 : (decide (p < 0) == decide (b < 0)) = true) : wrap64 (wrap64 (Int.tdiv p b) + 1) = value_Scale.res p b := by
  unfold value_Scale.res mx
  simp only [i64_w]
  have h3 : wrap64 (2 * (if Int.tmod p b < wrap64 (-(Int.tmod p b)) then wrap64 (-(Int.tmod p b)) else Int.tmod p b)) ≥ (if b < wrap64 (-b) then wrap64 (-b) else b) := h1
  rw [if_pos h3, if_pos (by simpa using h2)]
theorem value_Scale.down {p b : Int} (h1 : (if b < wrap64 (-b) then wrap64 (-b) else b) ≤ wrap64 (2 * (if Int.tmod p b < wrap64 (-(Int.tmod p b)) then wrap64 (-(Int.tmod p b)) else Int.tmod p b))) (h2 : (decide (p < 0) == decide (b < 0)) = false) : wrap64 (wrap64 (Int.tdiv p b) - 1) = value_Scale.res p b := by
  unfold value_Scale.res mx
  simp only [i64_w]
  have h3 : wrap64 (2 * (if Int.tmod p b < wrap64 (-(Int.tmod p b)) then wrap64 (-(Int.tmod p b)) else Int.tmod p b)) ≥ (if b < wrap64 (-b) then wrap64 (-b) else b) := h1
  have h4 : ¬ (decide (p < 0) = decide (b < 0)) := fun e => by rw [e] at h2; simp at h2
  rw [if_pos h3, if_neg h4]
theorem value_Scale.stay {p b : Int} (h1 : wrap64 (2 * (if Int.tmod p b < wrap64 (-(Int.tmod p b)) then wrap64 (-(Int.tmod p b)) else Int.tmod p b)) < (if b < wrap64 (-b) then wrap64 (-b) else b)) : wrap64 (Int.tdiv p b) = value_Scale.res p b := by
  unfold value_Scale.res mx
  simp only [i64_w]
  have h3 : ¬ (wrap64 (2 * (if Int.tmod p b < wrap64 (-(Int.tmod p b)) then wrap64 (-(Int.tmod p b)) else Int.tmod p b)) ≥ (if b < wrap64 (-b) then wrap64 (-b) else b)) := Int.not_le.mpr h1
  rw [if_neg h3]
theorem value_Scale.at_ (a0 a1 a2 i : Int) (h : 0 ≤ i ∧ i < 3) (w : World) : (Instr.index 101 (.agg #[.int .i64 a0, .int .i64 a1, .int .i64 a2]) (.int .i64 i)).run Try.prog w = .ok (.int .i64 (if i = 0 then a0 else if i = 1 then a1 else a2)) w := by
  obtain rfl | rfl | rfl : i = 0 ∨ i = 1 ∨ i = 2 := by omega
  · kernel_rfl
  · kernel_rfl
  · kernel_rfl
set_option maxHeartbeats 4000000 in
set_option maxRecDepth 100000 in
theorem value_Scale.calls (a0 : Int) (a1 : Int) (a2 : Int) (r1 : Int) (r2 : Int) (w : World) (h : value_Scale.f a0 a1 a2 = some (r1, r2)) :
    Calls Try.prog 34 #[.int .i64 a0, .int .i64 a1, .int .i64 a2] w fun e w' => e = .returned (.tuple #[.int .i64 r1, .int .i64 r2]) ∧ Below w.heap.size w w' := by
  unfold value_Scale.f at h
  have H := Aside0.mk (Option.some.inj h)
  clear h
  have hi := fun (w1 : World) (i : Int) (h : 0 ≤ i ∧ i < 3) => value_Scale.at_ a0 a1 a2 i h w1
  have hi0 := fun w1 : World => hi w1 0 (by decide)
  have hi1 := fun w1 : World => hi w1 1 (by decide)
  have hi2 := fun w1 : World => hi w1 2 (by decide)
  simp only [show ¬ (1 : Int) = 0 by decide, show ¬ (2 : Int) = 0 by decide, show ¬ (2 : Int) = 1 by decide, if_true, if_false] at hi0 hi1 hi2
  clear hi
  go_enter Try.func34, Try.ntmps34
  go_wp2
  go_loopw [9, 17, 18, 19, 20, 21, 22, 23, 24, 25, 26] (fun v9 v17 v18 v19 v20 v21 v22 v23 v24 v25 v26 wr => ∃ k : Int, (k = 0 ∨ k = 1 ∨ k = 2 ∨ k = 3) ∧ v17 = .int .i64 k ∧ wr = w ∧ Aside0 ((1 ≤ k → value_Scale.ok a0) ∧ (2 ≤ k → value_Scale.ok a1) ∧ (3 ≤ k → value_Scale.ok a2))) (fun _ v17 _ _ _ _ _ _ _ _ _ _ => 3 - (intOf v17).toNat)
  case atStart => exact ⟨0, .inl rfl, rfl, rfl, ⟨fun h => by omega, fun h => by omega, fun h => by omega⟩⟩
  case round =>
    obtain ⟨k, hk, rfl, rfl, HK⟩ := hrel
    obtain rfl | rfl | rfl | rfl := hk
    · by_cases c : value_Scale.ok a0
      · obtain ⟨b1, b2⟩ := value_Scale.in_ c
        have C := Aside0.mk c
        clear c
        go_wp2
        go_roundw
        case rel => exact ⟨1, .inr (.inl rfl), by first | rfl | trivial, by first | rfl | trivial, ⟨fun _ => C.out, fun h => by omega, fun h => by omega⟩⟩
        case measure => simp [intOf]
      · have E : (r1, r2) = (0, 11) := by rw [← H.out, if_neg (fun h => c h.1)]
        injection E with e1 e2
        subst e1
        subst e2
        rcases value_Scale.out_ c with b1 | ⟨b1, b2⟩
        all_goals
          clear c
          go_wp2
          go_ret2
          exact ⟨rfl, Below.refl _ _⟩
    · by_cases c : value_Scale.ok a1
      · obtain ⟨b1, b2⟩ := value_Scale.in_ c
        have C := Aside0.mk c
        clear c
        go_wp2
        go_roundw
        case rel => exact ⟨2, .inr (.inr (.inl rfl)), by first | rfl | trivial, by first | rfl | trivial, ⟨fun _ => HK.out.1 (by omega), fun _ => C.out, fun h => by omega⟩⟩
        case measure => simp [intOf]
      · have E : (r1, r2) = (0, 11) := by rw [← H.out, if_neg (fun h => c h.2.1)]
        injection E with e1 e2
        subst e1
        subst e2
        rcases value_Scale.out_ c with b1 | ⟨b1, b2⟩
        all_goals
          clear c
          go_wp2
          go_ret2
          exact ⟨rfl, Below.refl _ _⟩
    · by_cases c : value_Scale.ok a2
      · obtain ⟨b1, b2⟩ := value_Scale.in_ c
        have C := Aside0.mk c
        clear c
        go_wp2
        go_roundw
        case rel => exact ⟨3, .inr (.inr (.inr rfl)), by first | rfl | trivial, by first | rfl | trivial, ⟨fun _ => HK.out.1 (by omega), fun _ => HK.out.2.1 (by omega), fun _ => C.out⟩⟩
        case measure => simp [intOf]
      · have E : (r1, r2) = (0, 11) := by rw [← H.out, if_neg (fun h => c h.2.2)]
        injection E with e1 e2
        subst e1
        subst e2
        rcases value_Scale.out_ c with b1 | ⟨b1, b2⟩
        all_goals
          clear c
          go_wp2
          go_ret2
          exact ⟨rfl, Below.refl _ _⟩
    · have HO := Aside0.mk (And.intro (HK.out.1 (by omega)) (And.intro (HK.out.2.1 (by omega)) (HK.out.2.2 (by omega))))
      by_cases c : a2 = 0
      · subst c
        have E : (r1, r2) = (0, 11) := by rw [← H.out, if_pos HO.out, if_pos rfl]
        injection E with e1 e2
        subst e1
        subst e2
        go_wp2
        go_ret2
        exact ⟨rfl, Below.refl _ _⟩
      · have b0 : (a2 == 0) = false := by simp [c]
        have E : (r1, r2) = (value_Scale.res (IntKind.i64.wrap (a0 * a1)) a2, 0) := by rw [← H.out, if_pos HO.out, if_neg c]
        injection E with e1 e2
        subst e1
        subst e2
        go_wp2
        go_quiet (fail)
        go_wp2
        all_goals
          go_ret2
          refine ⟨?_, by repeat (first | exact Below.refl _ _ | apply below_drewN | apply pw_below_drewN)⟩
          clear hi0 hi1 hi2 HK HO H
          refine congrArg (fun z => Ending.returned (.tuple #[.int .i64 z, .int .i64 0])) ?_
          simp only [i64_w] at *
          first
            | exact value_Scale.up (by assumption) (by assumption)
            | exact value_Scale.down (by assumption) (by assumption)
            | exact value_Scale.stay (by assumption)

/-! ### bilgelaw40_sure: function 28 -/
def bilgelaw40_sure.f (k : Nat)  : Option (Bool) := (value_Put.f k 65538 2 0).bind fun bt122 => ((value_Put.f k 65538 2 1).bind fun bt126 => ((value_Get.f k (([65535] : List Int)) 0 true).bind fun bt133 => ((value_Get.f k (([1, 0] : List Int)) 3 false).bind fun bt138 => ((value_Scale.f 5 1 2).bind fun bt140 => ((value_Scale.f (-5) 1 2).bind fun bt142 => ((value_Put.f k 65536 1 0).bind fun bt144 => (if bt122.2 = 0 then ((bilgeref01_Words.f k bt122.1 (([1, 2] : List Int))).bind fun t151 => (if t151 = true then (if bt126.2 = 0 then ((bilgeref01_Words.f k bt126.1 (([2, 1] : List Int))).bind fun t155 => (if t155 = true then (if bt133.1 = (-1) then (if bt133.2 = 0 then (if bt138.1 = 256 then (if bt138.2 = 0 then (if bt140.1 = 3 then (if bt140.2 = 0 then (if bt142.1 = (-3) then (if bt142.2 = 0 then (some (bt144.2 == 13)) else (none)) else (none)) else (none)) else (none)) else (none)) else (none)) else (none)) else (none)) else (none))) else (none)) else (none))) else (none))))))))
theorem bilgelaw40_sure.mono : ∀ k, LeO (bilgelaw40_sure.f k ) (bilgelaw40_sure.f (k + 1) ) := by
 intro  k
 unfold bilgelaw40_sure.f
 repeat' first
   | (with_reducible exact bilgeref01_Words.mono _ _ _)
   | (with_reducible exact value_Get.mono _ _ _ _)
   | (with_reducible exact value_Put.mono _ _ _ _)
   | (with_reducible exact LeO.refl _)
   | (with_reducible exact LeO.none _)
   | (with_reducible refine LeO.ite ?_ ?_)
   | (with_reducible refine LeO.bind ?_ (fun _ => ?_))
   | exact bilgeref01_Words.mono _ _ _
   | exact value_Get.mono _ _ _ _
   | exact value_Put.mono _ _ _ _
   | exact LeO.none _
   | refine LeO.ite ?_ ?_
   | refine LeO.bind ?_ (fun _ => ?_)
set_option maxHeartbeats 8000000 in
set_option maxRecDepth 100000 in
theorem bilgelaw40_sure.calls (k : Nat)  (r : Bool) (w : World) (h : bilgelaw40_sure.f k  = some r) :
  Calls Try.prog 28 #[] w fun e w' => e = .returned (.bool r) ∧ Below w.heap.size w w' := by
 have HB := Aside0.mk (Below.refl w.heap.size w)
 have H : ((value_Put.f k 65538 2 0).bind fun bt122 => ((value_Put.f k 65538 2 1).bind fun bt126 => ((value_Get.f k (([65535] : List Int)) 0 true).bind fun bt133 => ((value_Get.f k (([1, 0] : List Int)) 3 false).bind fun bt138 => ((value_Scale.f 5 1 2).bind fun bt140 => ((value_Scale.f (-5) 1 2).bind fun bt142 => ((value_Put.f k 65536 1 0).bind fun bt144 => (if bt122.2 = 0 then ((bilgeref01_Words.f k bt122.1 (([1, 2] : List Int))).bind fun t151 => (if t151 = true then (if bt126.2 = 0 then ((bilgeref01_Words.f k bt126.1 (([2, 1] : List Int))).bind fun t155 => (if t155 = true then (if bt133.1 = (-1) then (if bt133.2 = 0 then (if bt138.1 = 256 then (if bt138.2 = 0 then (if bt140.1 = 3 then (if bt140.2 = 0 then (if bt142.1 = (-3) then (if bt142.2 = 0 then (some (bt144.2 == 13)) else (none)) else (none)) else (none)) else (none)) else (none)) else (none)) else (none)) else (none)) else (none))) else (none)) else (none))) else (none))))))))) = some r := h
 clear h
 replace H := Option.bind_eq_some_iff.mp H
 obtain ⟨⟨t122, t123⟩, A10, H⟩ := H
 replace H : ((value_Put.f k 65538 2 1).bind fun bt126 => ((value_Get.f k (([65535] : List Int)) 0 true).bind fun bt133 => ((value_Get.f k (([1, 0] : List Int)) 3 false).bind fun bt138 => ((value_Scale.f 5 1 2).bind fun bt140 => ((value_Scale.f (-5) 1 2).bind fun bt142 => ((value_Put.f k 65536 1 0).bind fun bt144 => (if t123 = 0 then ((bilgeref01_Words.f k t122 (([1, 2] : List Int))).bind fun t151 => (if t151 = true then (if bt126.2 = 0 then ((bilgeref01_Words.f k bt126.1 (([2, 1] : List Int))).bind fun t155 => (if t155 = true then (if bt133.1 = (-1) then (if bt133.2 = 0 then (if bt138.1 = 256 then (if bt138.2 = 0 then (if bt140.1 = 3 then (if bt140.2 = 0 then (if bt142.1 = (-3) then (if bt142.2 = 0 then (some (bt144.2 == 13)) else (none)) else (none)) else (none)) else (none)) else (none)) else (none)) else (none)) else (none)) else (none))) else (none)) else (none))) else (none)))))))) = some r := H
 have A1 := Aside0.mk A10
 clear A10
 replace H := Option.bind_eq_some_iff.mp H
 obtain ⟨⟨t126, t127⟩, A20, H⟩ := H
 replace H : ((value_Get.f k (([65535] : List Int)) 0 true).bind fun bt133 => ((value_Get.f k (([1, 0] : List Int)) 3 false).bind fun bt138 => ((value_Scale.f 5 1 2).bind fun bt140 => ((value_Scale.f (-5) 1 2).bind fun bt142 => ((value_Put.f k 65536 1 0).bind fun bt144 => (if t123 = 0 then ((bilgeref01_Words.f k t122 (([1, 2] : List Int))).bind fun t151 => (if t151 = true then (if t127 = 0 then ((bilgeref01_Words.f k t126 (([2, 1] : List Int))).bind fun t155 => (if t155 = true then (if bt133.1 = (-1) then (if bt133.2 = 0 then (if bt138.1 = 256 then (if bt138.2 = 0 then (if bt140.1 = 3 then (if bt140.2 = 0 then (if bt142.1 = (-3) then (if bt142.2 = 0 then (some (bt144.2 == 13)) else (none)) else (none)) else (none)) else (none)) else (none)) else (none)) else (none)) else (none)) else (none))) else (none)) else (none))) else (none))))))) = some r := H
 have A2 := Aside0.mk A20
 clear A20
 obtain ⟨y130, hy130⟩ : ∃ y_ : List Int, y_ = (([65535] : List Int)) := ⟨_, rfl⟩
 replace H : ((value_Get.f k y130 0 true).bind fun bt133 => ((value_Get.f k (([1, 0] : List Int)) 3 false).bind fun bt138 => ((value_Scale.f 5 1 2).bind fun bt140 => ((value_Scale.f (-5) 1 2).bind fun bt142 => ((value_Put.f k 65536 1 0).bind fun bt144 => (if t123 = 0 then ((bilgeref01_Words.f k t122 (([1, 2] : List Int))).bind fun t151 => (if t151 = true then (if t127 = 0 then ((bilgeref01_Words.f k t126 (([2, 1] : List Int))).bind fun t155 => (if t155 = true then (if bt133.1 = (-1) then (if bt133.2 = 0 then (if bt138.1 = 256 then (if bt138.2 = 0 then (if bt140.1 = 3 then (if bt140.2 = 0 then (if bt142.1 = (-3) then (if bt142.2 = 0 then (some (bt144.2 == 13)) else (none)) else (none)) else (none)) else (none)) else (none)) else (none)) else (none)) else (none)) else (none))) else (none)) else (none))) else (none))))))) = some r := by first | (rw [hy130]; with_reducible exact H) | (have H2_ := (Option.bind_some _ _).symm.trans H; rw [hy130]; with_reducible exact H2_) | (have H2_ := (Option.bind_some _ _).symm.trans H; with_reducible exact H2_) | with_reducible exact H | (rw [hy130]; exact H) | exact H
 have Ny130 := Aside0.mk hy130
 clear hy130
 replace H := Option.bind_eq_some_iff.mp H
 obtain ⟨⟨t133, t134⟩, A30, H⟩ := H
 replace H : ((value_Get.f k (([1, 0] : List Int)) 3 false).bind fun bt138 => ((value_Scale.f 5 1 2).bind fun bt140 => ((value_Scale.f (-5) 1 2).bind fun bt142 => ((value_Put.f k 65536 1 0).bind fun bt144 => (if t123 = 0 then ((bilgeref01_Words.f k t122 (([1, 2] : List Int))).bind fun t151 => (if t151 = true then (if t127 = 0 then ((bilgeref01_Words.f k t126 (([2, 1] : List Int))).bind fun t155 => (if t155 = true then (if t133 = (-1) then (if t134 = 0 then (if bt138.1 = 256 then (if bt138.2 = 0 then (if bt140.1 = 3 then (if bt140.2 = 0 then (if bt142.1 = (-3) then (if bt142.2 = 0 then (some (bt144.2 == 13)) else (none)) else (none)) else (none)) else (none)) else (none)) else (none)) else (none)) else (none)) else (none))) else (none)) else (none))) else (none)))))) = some r := H
 have A3 := Aside0.mk A30
 clear A30
 obtain ⟨y135, hy135⟩ : ∃ y_ : List Int, y_ = (([1, 0] : List Int)) := ⟨_, rfl⟩
 replace H : ((value_Get.f k y135 3 false).bind fun bt138 => ((value_Scale.f 5 1 2).bind fun bt140 => ((value_Scale.f (-5) 1 2).bind fun bt142 => ((value_Put.f k 65536 1 0).bind fun bt144 => (if t123 = 0 then ((bilgeref01_Words.f k t122 (([1, 2] : List Int))).bind fun t151 => (if t151 = true then (if t127 = 0 then ((bilgeref01_Words.f k t126 (([2, 1] : List Int))).bind fun t155 => (if t155 = true then (if t133 = (-1) then (if t134 = 0 then (if bt138.1 = 256 then (if bt138.2 = 0 then (if bt140.1 = 3 then (if bt140.2 = 0 then (if bt142.1 = (-3) then (if bt142.2 = 0 then (some (bt144.2 == 13)) else (none)) else (none)) else (none)) else (none)) else (none)) else (none)) else (none)) else (none)) else (none))) else (none)) else (none))) else (none)))))) = some r := by first | (rw [hy135]; with_reducible exact H) | (have H2_ := (Option.bind_some _ _).symm.trans H; rw [hy135]; with_reducible exact H2_) | (have H2_ := (Option.bind_some _ _).symm.trans H; with_reducible exact H2_) | with_reducible exact H | (rw [hy135]; exact H) | exact H
 have Ny135 := Aside0.mk hy135
 clear hy135
 replace H := Option.bind_eq_some_iff.mp H
 obtain ⟨⟨t138, t139⟩, A40, H⟩ := H
 replace H : ((value_Scale.f 5 1 2).bind fun bt140 => ((value_Scale.f (-5) 1 2).bind fun bt142 => ((value_Put.f k 65536 1 0).bind fun bt144 => (if t123 = 0 then ((bilgeref01_Words.f k t122 (([1, 2] : List Int))).bind fun t151 => (if t151 = true then (if t127 = 0 then ((bilgeref01_Words.f k t126 (([2, 1] : List Int))).bind fun t155 => (if t155 = true then (if t133 = (-1) then (if t134 = 0 then (if t138 = 256 then (if t139 = 0 then (if bt140.1 = 3 then (if bt140.2 = 0 then (if bt142.1 = (-3) then (if bt142.2 = 0 then (some (bt144.2 == 13)) else (none)) else (none)) else (none)) else (none)) else (none)) else (none)) else (none)) else (none)) else (none))) else (none)) else (none))) else (none))))) = some r := H
 have A4 := Aside0.mk A40
 clear A40
 replace H := Option.bind_eq_some_iff.mp H
 obtain ⟨⟨t140, t141⟩, A50, H⟩ := H
 replace H : ((value_Scale.f (-5) 1 2).bind fun bt142 => ((value_Put.f k 65536 1 0).bind fun bt144 => (if t123 = 0 then ((bilgeref01_Words.f k t122 (([1, 2] : List Int))).bind fun t151 => (if t151 = true then (if t127 = 0 then ((bilgeref01_Words.f k t126 (([2, 1] : List Int))).bind fun t155 => (if t155 = true then (if t133 = (-1) then (if t134 = 0 then (if t138 = 256 then (if t139 = 0 then (if t140 = 3 then (if t141 = 0 then (if bt142.1 = (-3) then (if bt142.2 = 0 then (some (bt144.2 == 13)) else (none)) else (none)) else (none)) else (none)) else (none)) else (none)) else (none)) else (none)) else (none))) else (none)) else (none))) else (none)))) = some r := H
 have A5 := Aside0.mk A50
 clear A50
 replace H := Option.bind_eq_some_iff.mp H
 obtain ⟨⟨t142, t143⟩, A60, H⟩ := H
 replace H : ((value_Put.f k 65536 1 0).bind fun bt144 => (if t123 = 0 then ((bilgeref01_Words.f k t122 (([1, 2] : List Int))).bind fun t151 => (if t151 = true then (if t127 = 0 then ((bilgeref01_Words.f k t126 (([2, 1] : List Int))).bind fun t155 => (if t155 = true then (if t133 = (-1) then (if t134 = 0 then (if t138 = 256 then (if t139 = 0 then (if t140 = 3 then (if t141 = 0 then (if t142 = (-3) then (if t143 = 0 then (some (bt144.2 == 13)) else (none)) else (none)) else (none)) else (none)) else (none)) else (none)) else (none)) else (none)) else (none))) else (none)) else (none))) else (none))) = some r := H
 have A6 := Aside0.mk A60
 clear A60
 replace H := Option.bind_eq_some_iff.mp H
 obtain ⟨⟨t144, t145⟩, A70, H⟩ := H
 replace H : (if t123 = 0 then ((bilgeref01_Words.f k t122 (([1, 2] : List Int))).bind fun t151 => (if t151 = true then (if t127 = 0 then ((bilgeref01_Words.f k t126 (([2, 1] : List Int))).bind fun t155 => (if t155 = true then (if t133 = (-1) then (if t134 = 0 then (if t138 = 256 then (if t139 = 0 then (if t140 = 3 then (if t141 = 0 then (if t142 = (-3) then (if t143 = 0 then (some (t145 == 13)) else (none)) else (none)) else (none)) else (none)) else (none)) else (none)) else (none)) else (none)) else (none))) else (none)) else (none))) else (none)) = some r := H
 have A7 := Aside0.mk A70
 clear A70
 by_cases c8 : t123 = 0
 ·rw [if_pos c8] at H
  have c8b0 : (t123 == 0) = true := beq_iff_eq.mpr c8
  have c8b1 : (t123 != 0) = false := bne_eq_false_iff_eq.mpr c8
  clear c8
  obtain ⟨y148, hy148⟩ : ∃ y_ : List Int, y_ = (([1, 2] : List Int)) := ⟨_, rfl⟩
  replace H : ((bilgeref01_Words.f k t122 y148).bind fun t151 => (if t151 = true then (if t127 = 0 then ((bilgeref01_Words.f k t126 (([2, 1] : List Int))).bind fun t155 => (if t155 = true then (if t133 = (-1) then (if t134 = 0 then (if t138 = 256 then (if t139 = 0 then (if t140 = 3 then (if t141 = 0 then (if t142 = (-3) then (if t143 = 0 then (some (t145 == 13)) else (none)) else (none)) else (none)) else (none)) else (none)) else (none)) else (none)) else (none)) else (none))) else (none)) else (none))) = some r := by first | (rw [hy148]; with_reducible exact H) | (have H2_ := (Option.bind_some _ _).symm.trans H; rw [hy148]; with_reducible exact H2_) | (have H2_ := (Option.bind_some _ _).symm.trans H; with_reducible exact H2_) | with_reducible exact H | (rw [hy148]; exact H) | exact H
  have Ny148 := Aside0.mk hy148
  clear hy148
  replace H := Option.bind_eq_some_iff.mp H
  obtain ⟨t151, A90, H⟩ := H
  replace H : (if t151 = true then (if t127 = 0 then ((bilgeref01_Words.f k t126 (([2, 1] : List Int))).bind fun t155 => (if t155 = true then (if t133 = (-1) then (if t134 = 0 then (if t138 = 256 then (if t139 = 0 then (if t140 = 3 then (if t141 = 0 then (if t142 = (-3) then (if t143 = 0 then (some (t145 == 13)) else (none)) else (none)) else (none)) else (none)) else (none)) else (none)) else (none)) else (none)) else (none))) else (none)) else (none)) = some r := H
  have A9 := Aside0.mk A90
  clear A90
  by_cases c10 : t151 = true
  ·subst c10
   have H1 : (if t127 = 0 then ((bilgeref01_Words.f k t126 (([2, 1] : List Int))).bind fun t155 => (if t155 = true then (if t133 = (-1) then (if t134 = 0 then (if t138 = 256 then (if t139 = 0 then (if t140 = 3 then (if t141 = 0 then (if t142 = (-3) then (if t143 = 0 then (some (t145 == 13)) else (none)) else (none)) else (none)) else (none)) else (none)) else (none)) else (none)) else (none)) else (none))) else (none)) = some r := by rw [if_pos rfl] at H; exact H
   clear H
   have H := H1
   clear H1
   by_cases c11 : t127 = 0
   ·rw [if_pos c11] at H
    have c11b0 : (t127 == 0) = true := beq_iff_eq.mpr c11
    have c11b1 : (t127 != 0) = false := bne_eq_false_iff_eq.mpr c11
    clear c11
    obtain ⟨y152, hy152⟩ : ∃ y_ : List Int, y_ = (([2, 1] : List Int)) := ⟨_, rfl⟩
    replace H : ((bilgeref01_Words.f k t126 y152).bind fun t155 => (if t155 = true then (if t133 = (-1) then (if t134 = 0 then (if t138 = 256 then (if t139 = 0 then (if t140 = 3 then (if t141 = 0 then (if t142 = (-3) then (if t143 = 0 then (some (t145 == 13)) else (none)) else (none)) else (none)) else (none)) else (none)) else (none)) else (none)) else (none)) else (none))) = some r := by first | (rw [hy152]; with_reducible exact H) | (have H2_ := (Option.bind_some _ _).symm.trans H; rw [hy152]; with_reducible exact H2_) | (have H2_ := (Option.bind_some _ _).symm.trans H; with_reducible exact H2_) | with_reducible exact H | (rw [hy152]; exact H) | exact H
    have Ny152 := Aside0.mk hy152
    clear hy152
    replace H := Option.bind_eq_some_iff.mp H
    obtain ⟨t155, A120, H⟩ := H
    replace H : (if t155 = true then (if t133 = (-1) then (if t134 = 0 then (if t138 = 256 then (if t139 = 0 then (if t140 = 3 then (if t141 = 0 then (if t142 = (-3) then (if t143 = 0 then (some (t145 == 13)) else (none)) else (none)) else (none)) else (none)) else (none)) else (none)) else (none)) else (none)) else (none)) = some r := H
    have A12 := Aside0.mk A120
    clear A120
    by_cases c13 : t155 = true
    ·subst c13
     have H1 : (if t133 = (-1) then (if t134 = 0 then (if t138 = 256 then (if t139 = 0 then (if t140 = 3 then (if t141 = 0 then (if t142 = (-3) then (if t143 = 0 then (some (t145 == 13)) else (none)) else (none)) else (none)) else (none)) else (none)) else (none)) else (none)) else (none)) = some r := by rw [if_pos rfl] at H; exact H
     clear H
     have H := H1
     clear H1
     by_cases c14 : t133 = (-1)
     ·rw [if_pos c14] at H
      have c14b0 : (t133 == (-1)) = true := beq_iff_eq.mpr c14
      have c14b1 : (t133 != (-1)) = false := bne_eq_false_iff_eq.mpr c14
      clear c14
      by_cases c15 : t134 = 0
      ·rw [if_pos c15] at H
       have c15b0 : (t134 == 0) = true := beq_iff_eq.mpr c15
       have c15b1 : (t134 != 0) = false := bne_eq_false_iff_eq.mpr c15
       clear c15
       by_cases c16 : t138 = 256
       ·rw [if_pos c16] at H
        have c16b0 : (t138 == 256) = true := beq_iff_eq.mpr c16
        have c16b1 : (t138 != 256) = false := bne_eq_false_iff_eq.mpr c16
        clear c16
        by_cases c17 : t139 = 0
        ·rw [if_pos c17] at H
         have c17b0 : (t139 == 0) = true := beq_iff_eq.mpr c17
         have c17b1 : (t139 != 0) = false := bne_eq_false_iff_eq.mpr c17
         clear c17
         by_cases c18 : t140 = 3
         ·rw [if_pos c18] at H
          have c18b0 : (t140 == 3) = true := beq_iff_eq.mpr c18
          have c18b1 : (t140 != 3) = false := bne_eq_false_iff_eq.mpr c18
          clear c18
          by_cases c19 : t141 = 0
          ·rw [if_pos c19] at H
           have c19b0 : (t141 == 0) = true := beq_iff_eq.mpr c19
           have c19b1 : (t141 != 0) = false := bne_eq_false_iff_eq.mpr c19
           clear c19
           by_cases c20 : t142 = (-3)
           ·rw [if_pos c20] at H
            have c20b0 : (t142 == (-3)) = true := beq_iff_eq.mpr c20
            have c20b1 : (t142 != (-3)) = false := bne_eq_false_iff_eq.mpr c20
            clear c20
            by_cases c21 : t143 = 0
            ·rw [if_pos c21] at H
             have c21b0 : (t143 == 0) = true := beq_iff_eq.mpr c21
             have c21b1 : (t143 != 0) = false := bne_eq_false_iff_eq.mpr c21
             clear c21
             obtain rfl := Option.some.inj H
             go_enter Try.func28, Try.ntmps28
             go_wp2_with (first | ((with_reducible refine gate_callee (f := 29) rfl ?_); refine goesL_ (some 16) rfl rfl Try.func29 (by kernel_rfl) rfl #[.int .i64 65538, .int .i64 2, .int .i64 0] rfl (by (try simp only [List.map_toArray, List.map_cons, List.map_nil]); first | done | rfl | (simp only [List.length_drop, List.length_take]; rfl)) ?_; (with_reducible refine (value_Put.calls k 65538 2 0 t122 t123 _ A1.out).mono ?_); rintro e w22 ⟨v124, rfl, ho0, hb⟩; refine ⟨_, rfl, ?_⟩; have n0_ := Aside0.mk (Kd.R_lower ho0 (below_size (by repeat (first | (with_reducible first | exact HB.out | apply below_alloc | apply pw_below_drewN | apply below_drew1) | exact HB.out)))); have n1_ := Aside0.mk (below_step (by repeat (first | (with_reducible first | exact HB.out | apply below_alloc | apply pw_below_drewN | apply below_drew1) | exact HB.out)) hb); clear HB; have HO125 := n0_; have HB := n1_; clear n0_ n1_; (try clear hb); (try clear hb2); (try clear hk); (try clear hi); (try clear ho0)) | ((with_reducible refine gate_callee (f := 29) rfl ?_); refine goesL_ (some 20) rfl rfl Try.func29 (by kernel_rfl) rfl #[.int .i64 65538, .int .i64 2, .int .i64 1] rfl (by (try simp only [List.map_toArray, List.map_cons, List.map_nil]); first | done | rfl | (simp only [List.length_drop, List.length_take]; rfl)) ?_; (with_reducible refine (value_Put.calls k 65538 2 1 t126 t127 _ A2.out).mono ?_); rintro e w23 ⟨v128, rfl, ho0, hb⟩; refine ⟨_, rfl, ?_⟩; have n0_ := Aside0.mk (Kd.R_elder' (by (with_reducible repeat (first | apply Kd.R_alloc | apply Kd.R_drewN | apply Kd.R_drew)); exact HO125.out) (Kd.R_base ho0) hb); have n1_ := Aside0.mk (Kd.R_lower (Kd.R_new' ho0 (Kd.R_lt (by (with_reducible repeat (first | apply Kd.R_alloc | apply Kd.R_drewN | apply Kd.R_drew)); exact HO125.out))) (below_size (by repeat (first | (with_reducible first | exact HB.out | apply below_alloc | apply pw_below_drewN | apply below_drew1) | exact HB.out)))); have n2_ := Aside0.mk (below_step (by repeat (first | (with_reducible first | exact HB.out | apply below_alloc | apply pw_below_drewN | apply below_drew1) | exact HB.out)) hb); clear HO125; clear HB; have HO125 := n0_; have HO129 := n1_; have HB := n2_; clear n0_ n1_ n2_; (try clear hb); (try clear hb2); (try clear hk); (try clear hi); (try clear ho0)) | ((with_reducible refine gate_dst (N := 24) rfl ?_); (try (refine gate_guard (by rfl) ?_; dsimp only)); refine Kd.R_lit (Kd.int .u16) _ 55 ?hg (N := 24) ?hd (xs := ([65535] : List Int)) (inner := [.int .u16 65535]) (ok := fun _ => True) (okp := fun _ => True) ?hr ?hp (fun _ hk => hk) trivial (Below.refl _ _) (Nat.le_refl _) (by simp) ?_; (case hd => rfl); (case hg => rfl); (case hr => first | (go_simp; done) | (go_simp; rfl)); (case hp => exact (Reps.one (show Kd.M (Kd.int .u16) _ _ _ 65535 [.int .u16 65535] from rfl) (Reps.none _ _))); intro v131 w24 ho25 hb hg_ hnew_; clear hg_ hnew_; (first | rw [← Ny130.out] at ho25 | (simp only [Int.reduceToNat] at ho25; rw [← Ny130.out] at ho25)); have n0_ := Aside0.mk (Kd.R_elder' (by (with_reducible repeat (first | apply Kd.R_alloc | apply Kd.R_drewN | apply Kd.R_drew)); exact HO125.out) (Kd.R_base ho25) hb); have n1_ := Aside0.mk (Kd.R_elder' (by (with_reducible repeat (first | apply Kd.R_alloc | apply Kd.R_drewN | apply Kd.R_drew)); exact HO129.out) (Kd.R_base ho25) hb); have n2_ := Aside0.mk (Kd.R_lower (Kd.R_new' (Kd.R_new' ho25 (Kd.R_lt (by (with_reducible repeat (first | apply Kd.R_alloc | apply Kd.R_drewN | apply Kd.R_drew)); exact HO125.out))) (Kd.R_lt (by (with_reducible repeat (first | apply Kd.R_alloc | apply Kd.R_drewN | apply Kd.R_drew)); exact HO129.out))) (below_size (by repeat (first | (with_reducible first | exact HB.out | apply below_alloc | apply pw_below_drewN | apply below_drew1) | exact HB.out)))); have n3_ := Aside0.mk (below_step (by repeat (first | (with_reducible first | exact HB.out | apply below_alloc | apply pw_below_drewN | apply below_drew1) | exact HB.out)) hb); clear HO125; clear HO129; clear HB; have HO125 := n0_; have HO129 := n1_; have HO132 := n2_; have HB := n3_; clear n0_ n1_ n2_ n3_; clear hb ho25; obtain ⟨Ao26, co26, eo26⟩ := Kd.R_slice HO132.out; subst eo26) | ((with_reducible refine gate_callee (f := 31) rfl ?_); refine goesL_ (some 25) rfl rfl Try.func31 (by kernel_rfl) rfl #[.slice Ao26 y130.length co26, .int .i64 0, .bool true] rfl (by (try simp only [List.map_toArray, List.map_cons, List.map_nil]); first | done | rfl | (simp only [List.length_drop, List.length_take]; rfl)) ?_; (with_reducible refine (value_Get.calls k _ _ y130 0 true t133 t134 _ ?side1 ?side2 A3.out).mono ?_); (case side1 => repeat (first | exact (Kd.R_reads' HO132.out).2.2 | (with_reducible refine Kd.C_alloc ?_ _) | (with_reducible refine Kd.C_drewN ?_ _) | (with_reducible refine Kd.C_drew ?_))); (case side2 => exact (Kd.R_reads' HO132.out).2.1); rintro e w27 ⟨rfl, hb⟩; refine ⟨_, rfl, ?_⟩; have n0_ := Aside0.mk (Kd.R_below (by (with_reducible repeat (first | apply Kd.R_alloc | apply Kd.R_drewN | apply Kd.R_drew)); exact HO125.out) hb); have n1_ := Aside0.mk (Kd.R_below (by (with_reducible repeat (first | apply Kd.R_alloc | apply Kd.R_drewN | apply Kd.R_drew)); exact HO129.out) hb); have n2_ := Aside0.mk (Kd.R_below (by (with_reducible repeat (first | apply Kd.R_alloc | apply Kd.R_drewN | apply Kd.R_drew)); exact HO132.out) hb); have n3_ := Aside0.mk (below_step (by repeat (first | (with_reducible first | exact HB.out | apply below_alloc | apply pw_below_drewN | apply below_drew1) | exact HB.out)) hb); clear HO125; clear HO129; clear HO132; clear HB; have HO125 := n0_; have HO129 := n1_; have HO132 := n2_; have HB := n3_; clear n0_ n1_ n2_ n3_; (try clear hb); (try clear hb2); (try clear hk); (try clear hi)) | ((with_reducible refine gate_dst (N := 29) rfl ?_); (try (refine gate_guard (by rfl) ?_; dsimp only)); refine Kd.R_lit (Kd.int .u16) _ 55 ?hg (N := 29) ?hd (xs := ([1, 0] : List Int)) (inner := [.int .u16 1, .int .u16 0]) (ok := fun _ => True) (okp := fun _ => True) ?hr ?hp (fun _ hk => hk) trivial (Below.refl _ _) (Nat.le_refl _) (by simp) ?_; (case hd => rfl); (case hg => rfl); (case hr => first | (go_simp; done) | (go_simp; rfl)); (case hp => exact (Reps.one (show Kd.M (Kd.int .u16) _ _ _ 1 [.int .u16 1] from rfl) (Reps.one (show Kd.M (Kd.int .u16) _ _ _ 0 [.int .u16 0] from rfl) (Reps.none _ _)))); intro v136 w28 ho29 hb hg_ hnew_; clear hg_ hnew_; (first | rw [← Ny135.out] at ho29 | (simp only [Int.reduceToNat] at ho29; rw [← Ny135.out] at ho29)); have n0_ := Aside0.mk (Kd.R_elder' (by (with_reducible repeat (first | apply Kd.R_alloc | apply Kd.R_drewN | apply Kd.R_drew)); exact HO125.out) (Kd.R_base ho29) hb); have n1_ := Aside0.mk (Kd.R_elder' (by (with_reducible repeat (first | apply Kd.R_alloc | apply Kd.R_drewN | apply Kd.R_drew)); exact HO129.out) (Kd.R_base ho29) hb); have n2_ := Aside0.mk (Kd.R_elder' (by (with_reducible repeat (first | apply Kd.R_alloc | apply Kd.R_drewN | apply Kd.R_drew)); exact HO132.out) (Kd.R_base ho29) hb); have n3_ := Aside0.mk (Kd.R_lower (Kd.R_new' (Kd.R_new' (Kd.R_new' ho29 (Kd.R_lt (by (with_reducible repeat (first | apply Kd.R_alloc | apply Kd.R_drewN | apply Kd.R_drew)); exact HO125.out))) (Kd.R_lt (by (with_reducible repeat (first | apply Kd.R_alloc | apply Kd.R_drewN | apply Kd.R_drew)); exact HO129.out))) (Kd.R_lt (by (with_reducible repeat (first | apply Kd.R_alloc | apply Kd.R_drewN | apply Kd.R_drew)); exact HO132.out))) (below_size (by repeat (first | (with_reducible first | exact HB.out | apply below_alloc | apply pw_below_drewN | apply below_drew1) | exact HB.out)))); have n4_ := Aside0.mk (below_step (by repeat (first | (with_reducible first | exact HB.out | apply below_alloc | apply pw_below_drewN | apply below_drew1) | exact HB.out)) hb); clear HO125; clear HO129; clear HO132; clear HB; have HO125 := n0_; have HO129 := n1_; have HO132 := n2_; have HO137 := n3_; have HB := n4_; clear n0_ n1_ n2_ n3_ n4_; clear hb ho29; obtain ⟨Ao30, co30, eo30⟩ := Kd.R_slice HO137.out; subst eo30) | ((with_reducible refine gate_callee (f := 31) rfl ?_); refine goesL_ (some 30) rfl rfl Try.func31 (by kernel_rfl) rfl #[.slice Ao30 y135.length co30, .int .i64 3, .bool false] rfl (by (try simp only [List.map_toArray, List.map_cons, List.map_nil]); first | done | rfl | (simp only [List.length_drop, List.length_take]; rfl)) ?_; (with_reducible refine (value_Get.calls k _ _ y135 3 false t138 t139 _ ?side1 ?side2 A4.out).mono ?_); (case side1 => repeat (first | exact (Kd.R_reads' HO137.out).2.2 | (with_reducible refine Kd.C_alloc ?_ _) | (with_reducible refine Kd.C_drewN ?_ _) | (with_reducible refine Kd.C_drew ?_))); (case side2 => exact (Kd.R_reads' HO137.out).2.1); rintro e w31 ⟨rfl, hb⟩; refine ⟨_, rfl, ?_⟩; have n0_ := Aside0.mk (Kd.R_below (by (with_reducible repeat (first | apply Kd.R_alloc | apply Kd.R_drewN | apply Kd.R_drew)); exact HO125.out) hb); have n1_ := Aside0.mk (Kd.R_below (by (with_reducible repeat (first | apply Kd.R_alloc | apply Kd.R_drewN | apply Kd.R_drew)); exact HO129.out) hb); have n2_ := Aside0.mk (Kd.R_below (by (with_reducible repeat (first | apply Kd.R_alloc | apply Kd.R_drewN | apply Kd.R_drew)); exact HO132.out) hb); have n3_ := Aside0.mk (Kd.R_below (by (with_reducible repeat (first | apply Kd.R_alloc | apply Kd.R_drewN | apply Kd.R_drew)); exact HO137.out) hb); have n4_ := Aside0.mk (below_step (by repeat (first | (with_reducible first | exact HB.out | apply below_alloc | apply pw_below_drewN | apply below_drew1) | exact HB.out)) hb); clear HO125; clear HO129; clear HO132; clear HO137; clear HB; have HO125 := n0_; have HO129 := n1_; have HO132 := n2_; have HO137 := n3_; have HB := n4_; clear n0_ n1_ n2_ n3_ n4_; (try clear hb); (try clear hb2); (try clear hk); (try clear hi)) | ((with_reducible refine gate_callee (f := 34) rfl ?_); refine goesL_ (some 34) rfl rfl Try.func34 (by kernel_rfl) rfl #[.int .i64 5, .int .i64 1, .int .i64 2] rfl (by (try simp only [List.map_toArray, List.map_cons, List.map_nil]); first | done | rfl | (simp only [List.length_drop, List.length_take]; rfl)) ?_; (with_reducible refine (value_Scale.calls 5 1 2 t140 t141 _ A5.out).mono ?_); rintro e w32 ⟨rfl, hb⟩; refine ⟨_, rfl, ?_⟩; have n0_ := Aside0.mk (Kd.R_below (by (with_reducible repeat (first | apply Kd.R_alloc | apply Kd.R_drewN | apply Kd.R_drew)); exact HO125.out) hb); have n1_ := Aside0.mk (Kd.R_below (by (with_reducible repeat (first | apply Kd.R_alloc | apply Kd.R_drewN | apply Kd.R_drew)); exact HO129.out) hb); have n2_ := Aside0.mk (Kd.R_below (by (with_reducible repeat (first | apply Kd.R_alloc | apply Kd.R_drewN | apply Kd.R_drew)); exact HO132.out) hb); have n3_ := Aside0.mk (Kd.R_below (by (with_reducible repeat (first | apply Kd.R_alloc | apply Kd.R_drewN | apply Kd.R_drew)); exact HO137.out) hb); have n4_ := Aside0.mk (below_step (by repeat (first | (with_reducible first | exact HB.out | apply below_alloc | apply pw_below_drewN | apply below_drew1) | exact HB.out)) hb); clear HO125; clear HO129; clear HO132; clear HO137; clear HB; have HO125 := n0_; have HO129 := n1_; have HO132 := n2_; have HO137 := n3_; have HB := n4_; clear n0_ n1_ n2_ n3_ n4_; (try clear hb); (try clear hb2); (try clear hk); (try clear hi)) | ((with_reducible refine gate_callee (f := 34) rfl ?_); refine goesL_ (some 38) rfl rfl Try.func34 (by kernel_rfl) rfl #[.int .i64 (-5), .int .i64 1, .int .i64 2] rfl (by (try simp only [List.map_toArray, List.map_cons, List.map_nil]); first | done | rfl | (simp only [List.length_drop, List.length_take]; rfl)) ?_; (with_reducible refine (value_Scale.calls (-5) 1 2 t142 t143 _ A6.out).mono ?_); rintro e w33 ⟨rfl, hb⟩; refine ⟨_, rfl, ?_⟩; have n0_ := Aside0.mk (Kd.R_below (by (with_reducible repeat (first | apply Kd.R_alloc | apply Kd.R_drewN | apply Kd.R_drew)); exact HO125.out) hb); have n1_ := Aside0.mk (Kd.R_below (by (with_reducible repeat (first | apply Kd.R_alloc | apply Kd.R_drewN | apply Kd.R_drew)); exact HO129.out) hb); have n2_ := Aside0.mk (Kd.R_below (by (with_reducible repeat (first | apply Kd.R_alloc | apply Kd.R_drewN | apply Kd.R_drew)); exact HO132.out) hb); have n3_ := Aside0.mk (Kd.R_below (by (with_reducible repeat (first | apply Kd.R_alloc | apply Kd.R_drewN | apply Kd.R_drew)); exact HO137.out) hb); have n4_ := Aside0.mk (below_step (by repeat (first | (with_reducible first | exact HB.out | apply below_alloc | apply pw_below_drewN | apply below_drew1) | exact HB.out)) hb); clear HO125; clear HO129; clear HO132; clear HO137; clear HB; have HO125 := n0_; have HO129 := n1_; have HO132 := n2_; have HO137 := n3_; have HB := n4_; clear n0_ n1_ n2_ n3_ n4_; (try clear hb); (try clear hb2); (try clear hk); (try clear hi)) | ((with_reducible refine gate_callee (f := 29) rfl ?_); refine goesL_ (some 42) rfl rfl Try.func29 (by kernel_rfl) rfl #[.int .i64 65536, .int .i64 1, .int .i64 0] rfl (by (try simp only [List.map_toArray, List.map_cons, List.map_nil]); first | done | rfl | (simp only [List.length_drop, List.length_take]; rfl)) ?_; (with_reducible refine (value_Put.calls k 65536 1 0 t144 t145 _ A7.out).mono ?_); rintro e w34 ⟨v146, rfl, ho0, hb⟩; refine ⟨_, rfl, ?_⟩; have n0_ := Aside0.mk (Kd.R_elder' (by (with_reducible repeat (first | apply Kd.R_alloc | apply Kd.R_drewN | apply Kd.R_drew)); exact HO125.out) (Kd.R_base ho0) hb); have n1_ := Aside0.mk (Kd.R_elder' (by (with_reducible repeat (first | apply Kd.R_alloc | apply Kd.R_drewN | apply Kd.R_drew)); exact HO129.out) (Kd.R_base ho0) hb); have n2_ := Aside0.mk (Kd.R_elder' (by (with_reducible repeat (first | apply Kd.R_alloc | apply Kd.R_drewN | apply Kd.R_drew)); exact HO132.out) (Kd.R_base ho0) hb); have n3_ := Aside0.mk (Kd.R_elder' (by (with_reducible repeat (first | apply Kd.R_alloc | apply Kd.R_drewN | apply Kd.R_drew)); exact HO137.out) (Kd.R_base ho0) hb); have n4_ := Aside0.mk (Kd.R_lower (Kd.R_new' (Kd.R_new' (Kd.R_new' (Kd.R_new' ho0 (Kd.R_lt (by (with_reducible repeat (first | apply Kd.R_alloc | apply Kd.R_drewN | apply Kd.R_drew)); exact HO125.out))) (Kd.R_lt (by (with_reducible repeat (first | apply Kd.R_alloc | apply Kd.R_drewN | apply Kd.R_drew)); exact HO129.out))) (Kd.R_lt (by (with_reducible repeat (first | apply Kd.R_alloc | apply Kd.R_drewN | apply Kd.R_drew)); exact HO132.out))) (Kd.R_lt (by (with_reducible repeat (first | apply Kd.R_alloc | apply Kd.R_drewN | apply Kd.R_drew)); exact HO137.out))) (below_size (by repeat (first | (with_reducible first | exact HB.out | apply below_alloc | apply pw_below_drewN | apply below_drew1) | exact HB.out)))); have n5_ := Aside0.mk (below_step (by repeat (first | (with_reducible first | exact HB.out | apply below_alloc | apply pw_below_drewN | apply below_drew1) | exact HB.out)) hb); clear HO125; clear HO129; clear HO132; clear HO137; clear HB; have HO125 := n0_; have HO129 := n1_; have HO132 := n2_; have HO137 := n3_; have HO147 := n4_; have HB := n5_; clear n0_ n1_ n2_ n3_ n4_ n5_; (try clear hb); (try clear hb2); (try clear hk); (try clear hi); (try clear ho0)) | ((with_reducible refine gate_dst (N := 49) rfl ?_); (try (refine gate_guard (by rfl) ?_; dsimp only)); refine Kd.R_lit (Kd.int .u16) _ 55 ?hg (N := 49) ?hd (xs := ([1, 2] : List Int)) (inner := [.int .u16 1, .int .u16 2]) (ok := fun _ => True) (okp := fun _ => True) ?hr ?hp (fun _ hk => hk) trivial (Below.refl _ _) (Nat.le_refl _) (by simp) ?_; (case hd => rfl); (case hg => rfl); (case hr => first | (go_simp; done) | (go_simp; rfl)); (case hp => exact (Reps.one (show Kd.M (Kd.int .u16) _ _ _ 1 [.int .u16 1] from rfl) (Reps.one (show Kd.M (Kd.int .u16) _ _ _ 2 [.int .u16 2] from rfl) (Reps.none _ _)))); intro v149 w35 ho36 hb hg_ hnew_; clear hg_ hnew_; (first | rw [← Ny148.out] at ho36 | (simp only [Int.reduceToNat] at ho36; rw [← Ny148.out] at ho36)); have n0_ := Aside0.mk (Kd.R_elder' (by (with_reducible repeat (first | apply Kd.R_alloc | apply Kd.R_drewN | apply Kd.R_drew)); exact HO125.out) (Kd.R_base ho36) hb); have n1_ := Aside0.mk (Kd.R_elder' (by (with_reducible repeat (first | apply Kd.R_alloc | apply Kd.R_drewN | apply Kd.R_drew)); exact HO129.out) (Kd.R_base ho36) hb); have n2_ := Aside0.mk (Kd.R_elder' (by (with_reducible repeat (first | apply Kd.R_alloc | apply Kd.R_drewN | apply Kd.R_drew)); exact HO132.out) (Kd.R_base ho36) hb); have n3_ := Aside0.mk (Kd.R_elder' (by (with_reducible repeat (first | apply Kd.R_alloc | apply Kd.R_drewN | apply Kd.R_drew)); exact HO137.out) (Kd.R_base ho36) hb); have n4_ := Aside0.mk (Kd.R_elder' (by (with_reducible repeat (first | apply Kd.R_alloc | apply Kd.R_drewN | apply Kd.R_drew)); exact HO147.out) (Kd.R_base ho36) hb); have n5_ := Aside0.mk (Kd.R_lower (Kd.R_new' (Kd.R_new' (Kd.R_new' (Kd.R_new' (Kd.R_new' ho36 (Kd.R_lt (by (with_reducible repeat (first | apply Kd.R_alloc | apply Kd.R_drewN | apply Kd.R_drew)); exact HO125.out))) (Kd.R_lt (by (with_reducible repeat (first | apply Kd.R_alloc | apply Kd.R_drewN | apply Kd.R_drew)); exact HO129.out))) (Kd.R_lt (by (with_reducible repeat (first | apply Kd.R_alloc | apply Kd.R_drewN | apply Kd.R_drew)); exact HO132.out))) (Kd.R_lt (by (with_reducible repeat (first | apply Kd.R_alloc | apply Kd.R_drewN | apply Kd.R_drew)); exact HO137.out))) (Kd.R_lt (by (with_reducible repeat (first | apply Kd.R_alloc | apply Kd.R_drewN | apply Kd.R_drew)); exact HO147.out))) (below_size (by repeat (first | (with_reducible first | exact HB.out | apply below_alloc | apply pw_below_drewN | apply below_drew1) | exact HB.out)))); have n6_ := Aside0.mk (below_step (by repeat (first | (with_reducible first | exact HB.out | apply below_alloc | apply pw_below_drewN | apply below_drew1) | exact HB.out)) hb); clear HO125; clear HO129; clear HO132; clear HO137; clear HO147; clear HB; have HO125 := n0_; have HO129 := n1_; have HO132 := n2_; have HO137 := n3_; have HO147 := n4_; have HO150 := n5_; have HB := n6_; clear n0_ n1_ n2_ n3_ n4_ n5_ n6_; clear hb ho36; obtain ⟨Ao37, co37, eo37⟩ := Kd.R_slice HO125.out; subst eo37; obtain ⟨Ao38, co38, eo38⟩ := Kd.R_slice HO150.out; subst eo38) | (go_at_call 33; (with_reducible refine (bilgeref01_Words.calls k _ _ t122 _ _ y148 true _ ?side1 ?side2 ?side3 ?side4 A9.out).mono ?_); (case side1 => repeat (first | exact (Kd.R_reads' HO125.out).2.2 | (with_reducible refine Kd.C_alloc ?_ _) | (with_reducible refine Kd.C_drewN ?_ _) | (with_reducible refine Kd.C_drew ?_))); (case side2 => exact (Kd.R_reads' HO125.out).2.1); (case side3 => repeat (first | exact (Kd.R_reads' HO150.out).2.2 | (with_reducible refine Kd.C_alloc ?_ _) | (with_reducible refine Kd.C_drewN ?_ _) | (with_reducible refine Kd.C_drew ?_))); (case side4 => exact (Kd.R_reads' HO150.out).2.1); rintro e w' ⟨rfl, ⟨nd, rfl⟩⟩) | ((with_reducible refine gate_dst (N := 58) rfl ?_); (try (refine gate_guard (by rfl) ?_; dsimp only)); refine Kd.R_lit (Kd.int .u16) _ 55 ?hg (N := 58) ?hd (xs := ([2, 1] : List Int)) (inner := [.int .u16 2, .int .u16 1]) (ok := fun _ => True) (okp := fun _ => True) ?hr ?hp (fun _ hk => hk) trivial (Below.refl _ _) (Nat.le_refl _) (by simp) ?_; (case hd => rfl); (case hg => rfl); (case hr => first | (go_simp; done) | (go_simp; rfl)); (case hp => exact (Reps.one (show Kd.M (Kd.int .u16) _ _ _ 2 [.int .u16 2] from rfl) (Reps.one (show Kd.M (Kd.int .u16) _ _ _ 1 [.int .u16 1] from rfl) (Reps.none _ _)))); intro v153 w39 ho40 hb hg_ hnew_; clear hg_ hnew_; (first | rw [← Ny152.out] at ho40 | (simp only [Int.reduceToNat] at ho40; rw [← Ny152.out] at ho40)); have n0_ := Aside0.mk (Kd.R_elder' (by (with_reducible repeat (first | apply Kd.R_alloc | apply Kd.R_drewN | apply Kd.R_drew)); exact HO125.out) (Kd.R_base ho40) hb); have n1_ := Aside0.mk (Kd.R_elder' (by (with_reducible repeat (first | apply Kd.R_alloc | apply Kd.R_drewN | apply Kd.R_drew)); exact HO129.out) (Kd.R_base ho40) hb); have n2_ := Aside0.mk (Kd.R_elder' (by (with_reducible repeat (first | apply Kd.R_alloc | apply Kd.R_drewN | apply Kd.R_drew)); exact HO132.out) (Kd.R_base ho40) hb); have n3_ := Aside0.mk (Kd.R_elder' (by (with_reducible repeat (first | apply Kd.R_alloc | apply Kd.R_drewN | apply Kd.R_drew)); exact HO137.out) (Kd.R_base ho40) hb); have n4_ := Aside0.mk (Kd.R_elder' (by (with_reducible repeat (first | apply Kd.R_alloc | apply Kd.R_drewN | apply Kd.R_drew)); exact HO147.out) (Kd.R_base ho40) hb); have n5_ := Aside0.mk (Kd.R_elder' (by (with_reducible repeat (first | apply Kd.R_alloc | apply Kd.R_drewN | apply Kd.R_drew)); exact HO150.out) (Kd.R_base ho40) hb); have n6_ := Aside0.mk (Kd.R_lower (Kd.R_new' (Kd.R_new' (Kd.R_new' (Kd.R_new' (Kd.R_new' (Kd.R_new' ho40 (Kd.R_lt (by (with_reducible repeat (first | apply Kd.R_alloc | apply Kd.R_drewN | apply Kd.R_drew)); exact HO125.out))) (Kd.R_lt (by (with_reducible repeat (first | apply Kd.R_alloc | apply Kd.R_drewN | apply Kd.R_drew)); exact HO129.out))) (Kd.R_lt (by (with_reducible repeat (first | apply Kd.R_alloc | apply Kd.R_drewN | apply Kd.R_drew)); exact HO132.out))) (Kd.R_lt (by (with_reducible repeat (first | apply Kd.R_alloc | apply Kd.R_drewN | apply Kd.R_drew)); exact HO137.out))) (Kd.R_lt (by (with_reducible repeat (first | apply Kd.R_alloc | apply Kd.R_drewN | apply Kd.R_drew)); exact HO147.out))) (Kd.R_lt (by (with_reducible repeat (first | apply Kd.R_alloc | apply Kd.R_drewN | apply Kd.R_drew)); exact HO150.out))) (below_size (by repeat (first | (with_reducible first | exact HB.out | apply below_alloc | apply pw_below_drewN | apply below_drew1) | exact HB.out)))); have n7_ := Aside0.mk (below_step (by repeat (first | (with_reducible first | exact HB.out | apply below_alloc | apply pw_below_drewN | apply below_drew1) | exact HB.out)) hb); clear HO125; clear HO129; clear HO132; clear HO137; clear HO147; clear HO150; clear HB; have HO125 := n0_; have HO129 := n1_; have HO132 := n2_; have HO137 := n3_; have HO147 := n4_; have HO150 := n5_; have HO154 := n6_; have HB := n7_; clear n0_ n1_ n2_ n3_ n4_ n5_ n6_ n7_; clear hb ho40; obtain ⟨Ao41, co41, eo41⟩ := Kd.R_slice HO129.out; subst eo41; obtain ⟨Ao42, co42, eo42⟩ := Kd.R_slice HO154.out; subst eo42) | (go_at_call 33; (with_reducible refine (bilgeref01_Words.calls k _ _ t126 _ _ y152 true _ ?side1 ?side2 ?side3 ?side4 A12.out).mono ?_); (case side1 => repeat (first | exact (Kd.R_reads' HO129.out).2.2 | (with_reducible refine Kd.C_alloc ?_ _) | (with_reducible refine Kd.C_drewN ?_ _) | (with_reducible refine Kd.C_drew ?_))); (case side2 => exact (Kd.R_reads' HO129.out).2.1); (case side3 => repeat (first | exact (Kd.R_reads' HO154.out).2.2 | (with_reducible refine Kd.C_alloc ?_ _) | (with_reducible refine Kd.C_drewN ?_ _) | (with_reducible refine Kd.C_drew ?_))); (case side4 => exact (Kd.R_reads' HO154.out).2.1); rintro e w' ⟨rfl, ⟨nd, rfl⟩⟩))
             go_ret
             exact ⟨by first | rfl | (simp [errW_none, errW_some] <;> rfl) | (simp [*, errW_none, errW_some] <;> rfl), by repeat (first | (with_reducible first | exact HB.out | apply below_alloc | apply pw_below_drewN | apply below_drew1) | exact HB.out)⟩
            ·rw [if_neg c21] at H
             exact absurd H (by simp)
           ·rw [if_neg c20] at H
            exact absurd H (by simp)
          ·rw [if_neg c19] at H
           exact absurd H (by simp)
         ·rw [if_neg c18] at H
          exact absurd H (by simp)
        ·rw [if_neg c17] at H
         exact absurd H (by simp)
       ·rw [if_neg c16] at H
        exact absurd H (by simp)
      ·rw [if_neg c15] at H
       exact absurd H (by simp)
     ·rw [if_neg c14] at H
      exact absurd H (by simp)
    ·replace c13 := Bool.eq_false_iff.mpr c13
     subst c13
     have H1 : (none) = some r := by rw [if_neg (show ¬ (false = true) by decide)] at H; exact H
     clear H
     have H := H1
     clear H1
     exact absurd H (by simp)
   ·rw [if_neg c11] at H
    exact absurd H (by simp)
  ·replace c10 := Bool.eq_false_iff.mpr c10
   subst c10
   have H1 : (none) = some r := by rw [if_neg (show ¬ (false = true) by decide)] at H; exact H
   clear H
   have H := H1
   clear H1
   exact absurd H (by simp)
 ·rw [if_neg c8] at H
  exact absurd H (by simp)

/-! ### bilgeref40_turn: function 84 -/
def bilgeref40_turn.f (a0 : Int) : Option (Int) := some (IntKind.u16.wrap ((IntKind.u16.wrap (Int.tdiv a0 256)) + (IntKind.u16.wrap ((Int.tmod a0 256) * 256))))
set_option maxHeartbeats 8000000 in
set_option maxRecDepth 100000 in
theorem bilgeref40_turn.calls (a0 : Int) (r : Int) (w : World) (h : bilgeref40_turn.f a0 = some r) :
  Calls Try.prog 84 #[.int .u16 a0] w fun e w' => e = .returned (.int .u16 r) ∧ Drawn0 w w' := by
 have H : (some (IntKind.u16.wrap ((IntKind.u16.wrap (Int.tdiv a0 256)) + (IntKind.u16.wrap ((Int.tmod a0 256) * 256))))) = some r := h
 clear h
 obtain rfl := Option.some.inj H
 go_enter Try.func84, Try.ntmps84
 go_wp2
 go_ret
 exact ⟨by first | rfl | (simp; done) | (simp [*]; done), by repeat (first | exact Drawn0.refl _ | apply Drawn0.step)⟩

/-! ### bilgeref40_laid: function 67 -/
def bilgeref40_laid.l0 : Nat → List Int → Int → List Int → Int → Option (List Int)
 | 0, _, _, _, _ => none
 | k + 1, x0, x1, x5, x6 => if x6 < (x0.length : Int) then (if 0 ≤ x6 then (if (Int.tmod x1 2) = 1 then (if 0 ≤ (wrap64 ((wrap64 ((x0.length : Int) - 1)) - x6)) then (if (wrap64 ((wrap64 ((x0.length : Int) - 1)) - x6)) < (x0.length : Int) then (if x1 ≥ 2 then ((bilgeref40_turn.f (rd x0 (wrap64 ((wrap64 ((x0.length : Int) - 1)) - x6)))).bind fun t158 => (if x5.length < 70368744177664 then (bilgeref40_laid.l0 k x0 x1 (x5 ++ [t158]) (wrap64 (x6 + 1))) else (none))) else (if x5.length < 70368744177664 then (bilgeref40_laid.l0 k x0 x1 (x5 ++ [rd x0 (wrap64 ((wrap64 ((x0.length : Int) - 1)) - x6))]) (wrap64 (x6 + 1))) else (none))) else (none)) else (none)) else (if x1 ≥ 2 then ((bilgeref40_turn.f (rd x0 x6)).bind fun t165 => (if x5.length < 70368744177664 then (bilgeref40_laid.l0 k x0 x1 (x5 ++ [t165]) (wrap64 (x6 + 1))) else (none))) else (if x5.length < 70368744177664 then (bilgeref40_laid.l0 k x0 x1 (x5 ++ [rd x0 x6]) (wrap64 (x6 + 1))) else (none)))) else (none)) else (some x5)
def bilgeref40_laid.f (k : Nat) (l0 : List Int) (a1 : Int) : Option (List Int) := bilgeref40_laid.l0 k l0 a1 ([] : List Int) 0
theorem bilgeref40_laid.mono_l : ∀ k, (∀ y0 y1 y2 y3, LeO (bilgeref40_laid.l0 k y0 y1 y2 y3) (bilgeref40_laid.l0 (k + 1) y0 y1 y2 y3))
 | 0 => fun _ _ _ _ r h => by simp [bilgeref40_laid.l0] at h
 | k + 1 => by
  have ih0 := bilgeref40_laid.mono_l k
  ·intro y0 y1 y2 y3
   unfold bilgeref40_laid.l0
   repeat' first
   | (with_reducible exact ih0 _ _ _ _)
   | (with_reducible exact LeO.refl _)
   | (with_reducible exact LeO.none _)
   | (with_reducible refine LeO.ite ?_ ?_)
   | (with_reducible refine LeO.bind ?_ (fun _ => ?_))
   | exact ih0 _ _ _ _
   | exact LeO.none _
   | refine LeO.ite ?_ ?_
   | refine LeO.bind ?_ (fun _ => ?_)
theorem bilgeref40_laid.mono : ∀ a0 a1 k, LeO (bilgeref40_laid.f k a0 a1) (bilgeref40_laid.f (k + 1) a0 a1) := by
 intro a0 a1 k
 have ih0 := bilgeref40_laid.mono_l k
 unfold bilgeref40_laid.f
 repeat' first
   | (with_reducible exact ih0 _ _ _ _)
   | (with_reducible exact LeO.refl _)
   | (with_reducible exact LeO.none _)
   | (with_reducible refine LeO.ite ?_ ?_)
   | (with_reducible refine LeO.bind ?_ (fun _ => ?_))
   | exact ih0 _ _ _ _
   | exact LeO.none _
   | refine LeO.ite ?_ ?_
   | refine LeO.bind ?_ (fun _ => ?_)
set_option maxHeartbeats 8000000 in
set_option maxRecDepth 100000 in
theorem bilgeref40_laid.calls (k : Nat) (A0 : Option Addr) (c0 : Nat) (l0 : List Int) (a1 : Int) (r : List Int) (w : World) (hr0 : Kd.C (Kd.int .u16) w A0 l0.length l0) (hc0 : l0.length ≤ c0) (h : bilgeref40_laid.f k l0 a1 = some r) :
  Calls Try.prog 67 #[.slice A0 l0.length c0, .int .i64 a1] w fun e w' => ∃ v0_ : Value, e = .returned (v0_) ∧ Kd.R (Kd.int .u16) 55 w' w.heap.size (fun _ => True) v0_ r ∧ Below w.heap.size w w' := by
 have HR0 := Aside0.mk hr0
 have HC0 := Aside0.mk hc0
 clear hr0 hc0
 have HB := Aside0.mk (Below.refl w.heap.size w)
 have H : (bilgeref40_laid.l0 k l0 a1 ([] : List Int) 0) = some r := h
 clear h
 have H' := Aside0.mk H
 clear H
 go_enter Try.func67, Try.ntmps67
 go_wp2
 go_loopg [5, 6] k (fun kq v5 v6 w' => ∃ (x5_1 : List Int) (x6_1 : Int), v6 = .int .i64 x6_1 ∧ Aside0 (bilgeref40_laid.l0 kq l0 a1 x5_1 x6_1 = some r) ∧ Aside0 (kq ≤ k) ∧ Aside0 (Kd.R (Kd.int .u16) 55 w' w.heap.size (fun _ => True) v5 x5_1) ∧ Aside0 (Below w.heap.size w w'))
 case atStart => exact ⟨(([] : List Int)), (0), (by first | rfl | (simp; done) | (simp [*]; done)), H', ⟨Nat.le_refl _⟩, ⟨by first | exact Kd.R_nil _ _ _ _ _ | exact Kd.N_nil _ _ _ _ _ | exact Kd.V_nil _ _ _ _ _ | exact Kd.Q_nil _ _ _ _ _ | exact Kd.S_nil _ _ _ _ _⟩, ⟨by repeat (first | (with_reducible first | exact HB.out | apply below_alloc | apply pw_below_drewN | apply below_drew1) | exact HB.out)⟩⟩
 case round =>
  clear H'
  try clear p2
  obtain ⟨x5_1, x6_1, rfl, HA, HK1, HO_5, HB⟩ := hrel
  cases gk with
  | zero => exact absurd HA.out (by simp [bilgeref40_laid.l0])
  | succ k1 =>
   have H := HA.out
   clear HA
   simp only [bilgeref40_laid.l0] at H
   by_cases c3 : x6_1 < (l0.length : Int)
   ·rw [if_pos c3] at H
    have c3b0 : decide (x6_1 < (l0.length : Int)) = true := decide_eq_true c3
    clear c3
    by_cases c4 : 0 ≤ x6_1
    ·rw [if_pos c4] at H
     have c4b0 : decide (0 ≤ x6_1) = true := decide_eq_true c4
     clear c4
     by_cases c5 : (Int.tmod a1 2) = 1
     ·rw [if_pos c5] at H
      have c5b0 : ((Int.tmod a1 2) == 1) = true := beq_iff_eq.mpr c5
      have c5b1 : ((Int.tmod a1 2) != 1) = false := bne_eq_false_iff_eq.mpr c5
      clear c5
      obtain ⟨ji6, hji6⟩ : ∃ j_ : Int, (wrap64 ((wrap64 ((l0.length : Int) - 1)) - x6_1)) = j_ := ⟨_, rfl⟩
      replace H : (if 0 ≤ (ji6) then (if (ji6) < (l0.length : Int) then (if a1 ≥ 2 then ((bilgeref40_turn.f (rd l0 (ji6))).bind fun t158 => (if x5_1.length < 70368744177664 then (bilgeref40_laid.l0 k1 l0 a1 (x5_1 ++ [t158]) (wrap64 (x6_1 + 1))) else (none))) else (if x5_1.length < 70368744177664 then (bilgeref40_laid.l0 k1 l0 a1 (x5_1 ++ [rd l0 (ji6)]) (wrap64 (x6_1 + 1))) else (none))) else (none)) else (none)) = some r := by first | (rw [hji6] at H; exact H) | (simp only [hji6] at H ⊢; exact H)
      have hji6w : (IntKind.i64.wrap ((wrap64 ((l0.length : Int) - 1)) - x6_1)) = ji6 := (i64_w _).trans hji6
      by_cases c7 : 0 ≤ (ji6)
      ·rw [if_pos c7] at H
       have c7b0 : decide (0 ≤ (ji6)) = true := decide_eq_true c7
       clear c7
       by_cases c8 : (ji6) < (l0.length : Int)
       ·rw [if_pos c8] at H
        have c8b0 : decide ((ji6) < (l0.length : Int)) = true := decide_eq_true c8
        clear c8
        by_cases c9 : a1 ≥ 2
        ·rw [if_pos c9] at H
         have c9b0 : decide (2 ≤ a1) = true := decide_eq_true c9
         clear c9
         replace H := Option.bind_eq_some_iff.mp H
         obtain ⟨t158, A100, H⟩ := H
         replace H : (if x5_1.length < 70368744177664 then (bilgeref40_laid.l0 k1 l0 a1 (x5_1 ++ [t158]) (wrap64 (x6_1 + 1))) else (none)) = some r := H
         have A10 := Aside0.mk A100
         clear A100
         by_cases c11 : x5_1.length < 70368744177664
         ·rw [if_pos c11] at H
          have LMc11 := Aside0.mk c11
          clear c11
          obtain ⟨y159, hy159⟩ : ∃ y_ : List Int, y_ = (x5_1 ++ [t158]) := ⟨_, rfl⟩
          replace H : (bilgeref40_laid.l0 k1 l0 a1 y159 (wrap64 (x6_1 + 1))) = some r := by first | (rw [hy159]; with_reducible exact H) | (have H2_ := (Option.bind_some _ _).symm.trans H; rw [hy159]; with_reducible exact H2_) | (have H2_ := (Option.bind_some _ _).symm.trans H; with_reducible exact H2_) | with_reducible exact H | (rw [hy159]; exact H) | exact H
          have Ny159 := Aside0.mk hy159
          clear hy159
          have H' := Aside0.mk H
          clear H
          have p156 : 0 ≤ (x6_1 : Int) := of_decide_eq_true (by first | (with_reducible assumption) | assumption)
          have q156 : x6_1 < (l0.length : Int) := of_decide_eq_true (by first | (with_reducible assumption) | assumption)
          obtain ⟨ad156, e156, hx156_0⟩ := Kd.at_int HR0.out x6_1 p156 q156
          cases e156
          replace hx156_0 := (HB.out.cell (World.block_lt_of_cell? w _ hx156_0)).trans hx156_0
          replace p156 := eq_true p156
          replace q156 := eq_true q156
          have p157 : 0 ≤ ((ji6) : Int) := of_decide_eq_true (by first | (with_reducible assumption) | assumption)
          have q157 : (ji6) < (l0.length : Int) := of_decide_eq_true (by first | (with_reducible assumption) | assumption)
          obtain ⟨ad157, e157, hx157_0⟩ := Kd.at_int HR0.out (ji6) p157 q157
          obtain rfl : ad156 = ad157 := (by injection e157)
          replace hx157_0 := (HB.out.cell (World.block_lt_of_cell? w _ hx157_0)).trans hx157_0
          replace p157 := eq_true p157
          replace q157 := eq_true q157
          go_wp2_with (first | ((with_reducible refine gate_callee (f := 84) rfl ?_); refine goesL_ (some 32) rfl rfl Try.func84 (by kernel_rfl) rfl #[.int .u16 (rd l0 (ji6))] rfl (by (try simp only [List.map_toArray, List.map_cons, List.map_nil]); first | done | (simp only [hji6]; rfl) | rfl | (simp only [List.length_drop, List.length_take]; rfl)) ?_; (with_reducible refine (bilgeref40_turn.calls (rd l0 (ji6)) t158 _ A10.out).mono ?_); rintro e w' ⟨rfl, ⟨nd, rfl⟩⟩; refine ⟨_, rfl, ?_⟩) | ((with_reducible refine gate_builtin (b := .append) (xs := #[.tmp 33, .tmp 35]) rfl ?_); at_builtin; refine Kd.R_append (Kd.int .u16) (w0 := w) w.heap.size rfl (.tmp 33) (.tmp 35) 39 55 (.int .u16 0) 2 rfl Try.underlying39 info55 rfl (by decide) (by omega) u5 x5_1 t158 [.int .u16 t158] (fun _ => True) (fun _ => False) rfl rfl ?aP (fun _ hk => hk.elim) ?aF ?aO ?aB ?aS ?aL ?_; (case aP => exact rfl); (case aB => exact (by repeat (first | (with_reducible first | exact HB.out | apply below_alloc | apply pw_below_drewN | apply below_drew1) | exact HB.out))); (case aF => exact (fun _ _ => trivial)); (case aO => exact (by (with_reducible repeat (first | apply Kd.R_alloc | apply Kd.R_drewN | apply Kd.R_drew)); exact HO_5.out)); (case aS => exact (below_size (by repeat (first | (with_reducible first | exact HB.out | apply below_alloc | apply pw_below_drewN | apply below_drew1) | exact HB.out)))); (case aL => have := LMc11.out; omega); intro v160 w12 ho hb hg hat; rw [← Ny159.out] at ho; have n0_ := Aside0.mk (hb); have n1_ := Aside0.mk (ho); clear HB; clear HO_5; have HB := n0_; have HO161 := n1_; clear n0_ n1_; clear ho hb hg hat))
          all_goals try (first | exact absurd (of_decide_eq_true c3b0) (by assumption) | exact absurd (of_decide_eq_true c4b0) (by assumption) | exact absurd (of_decide_eq_true c7b0) (by assumption) | exact absurd (of_decide_eq_true c8b0) (by assumption) | exact absurd (of_decide_eq_true c9b0) (by assumption))
          go_roundg k1
          case measure => have := HK1.out; omega
          case rel => exact ⟨(y159), (wrap64 (x6_1 + 1)), (by first | rfl | (simp; done) | (simp [*]; done)), H', ⟨by have := HK1.out; omega⟩, ⟨by (with_reducible repeat (first | apply Kd.R_alloc | apply Kd.R_drewN | apply Kd.R_drew)); exact HO161.out⟩, ⟨by repeat (first | (with_reducible first | exact HB.out | apply below_alloc | apply pw_below_drewN | apply below_drew1) | exact HB.out)⟩⟩
         ·rw [if_neg c11] at H
          exact absurd H (by simp)
        ·rw [if_neg c9] at H
         have c9b0 : decide (2 ≤ a1) = false := decide_eq_false c9
         clear c9
         by_cases c13 : x5_1.length < 70368744177664
         ·rw [if_pos c13] at H
          have LMc13 := Aside0.mk c13
          clear c13
          obtain ⟨y162, hy162⟩ : ∃ y_ : List Int, y_ = (x5_1 ++ [rd l0 (ji6)]) := ⟨_, rfl⟩
          replace H : (bilgeref40_laid.l0 k1 l0 a1 y162 (wrap64 (x6_1 + 1))) = some r := by first | (rw [hy162]; with_reducible exact H) | (have H2_ := (Option.bind_some _ _).symm.trans H; rw [hy162]; with_reducible exact H2_) | (have H2_ := (Option.bind_some _ _).symm.trans H; with_reducible exact H2_) | with_reducible exact H | (rw [hy162]; exact H) | exact H
          have Ny162 := Aside0.mk hy162
          clear hy162
          have H' := Aside0.mk H
          clear H
          have p156 : 0 ≤ (x6_1 : Int) := of_decide_eq_true (by first | (with_reducible assumption) | assumption)
          have q156 : x6_1 < (l0.length : Int) := of_decide_eq_true (by first | (with_reducible assumption) | assumption)
          obtain ⟨ad156, e156, hx156_0⟩ := Kd.at_int HR0.out x6_1 p156 q156
          cases e156
          replace hx156_0 := (HB.out.cell (World.block_lt_of_cell? w _ hx156_0)).trans hx156_0
          replace p156 := eq_true p156
          replace q156 := eq_true q156
          have p157 : 0 ≤ ((ji6) : Int) := of_decide_eq_true (by first | (with_reducible assumption) | assumption)
          have q157 : (ji6) < (l0.length : Int) := of_decide_eq_true (by first | (with_reducible assumption) | assumption)
          obtain ⟨ad157, e157, hx157_0⟩ := Kd.at_int HR0.out (ji6) p157 q157
          obtain rfl : ad156 = ad157 := (by injection e157)
          replace hx157_0 := (HB.out.cell (World.block_lt_of_cell? w _ hx157_0)).trans hx157_0
          replace p157 := eq_true p157
          replace q157 := eq_true q157
          go_wp2_with (first | ((with_reducible refine gate_builtin (b := .append) (xs := #[.tmp 33, .tmp 35]) rfl ?_); at_builtin; refine Kd.R_append (Kd.int .u16) (w0 := w) w.heap.size rfl (.tmp 33) (.tmp 35) 39 55 (.int .u16 0) 2 rfl Try.underlying39 info55 rfl (by decide) (by omega) u5 x5_1 (rd l0 (ji6)) [.int .u16 (rd l0 (ji6))] (fun _ => True) (fun _ => False) rfl rfl ?aP (fun _ hk => hk.elim) ?aF ?aO ?aB ?aS ?aL ?_; (case aP => exact rfl); (case aB => exact (by repeat (first | (with_reducible first | exact HB.out | apply below_alloc | apply pw_below_drewN | apply below_drew1) | exact HB.out))); (case aF => exact (fun _ _ => trivial)); (case aO => exact (by (with_reducible repeat (first | apply Kd.R_alloc | apply Kd.R_drewN | apply Kd.R_drew)); exact HO_5.out)); (case aS => exact (below_size (by repeat (first | (with_reducible first | exact HB.out | apply below_alloc | apply pw_below_drewN | apply below_drew1) | exact HB.out)))); (case aL => have := LMc13.out; omega); intro v163 w14 ho hb hg hat; rw [← Ny162.out] at ho; have n0_ := Aside0.mk (hb); have n1_ := Aside0.mk (ho); clear HB; clear HO_5; have HB := n0_; have HO164 := n1_; clear n0_ n1_; clear ho hb hg hat))
          all_goals try (first | exact absurd (of_decide_eq_true c3b0) (by assumption) | exact absurd (of_decide_eq_true c4b0) (by assumption) | exact absurd (of_decide_eq_true c7b0) (by assumption) | exact absurd (of_decide_eq_true c8b0) (by assumption) | exact absurd (by assumption) (of_decide_eq_false c9b0))
          go_roundg k1
          case measure => have := HK1.out; omega
          case rel => exact ⟨(y162), (wrap64 (x6_1 + 1)), (by first | rfl | (simp; done) | (simp [*]; done)), H', ⟨by have := HK1.out; omega⟩, ⟨by (with_reducible repeat (first | apply Kd.R_alloc | apply Kd.R_drewN | apply Kd.R_drew)); exact HO164.out⟩, ⟨by repeat (first | (with_reducible first | exact HB.out | apply below_alloc | apply pw_below_drewN | apply below_drew1) | exact HB.out)⟩⟩
         ·rw [if_neg c13] at H
          exact absurd H (by simp)
       ·rw [if_neg c8] at H
        exact absurd H (by simp)
      ·rw [if_neg c7] at H
       exact absurd H (by simp)
     ·rw [if_neg c5] at H
      have c5b0 : ((Int.tmod a1 2) == 1) = false := beq_eq_false_iff_ne.mpr c5
      have c5b1 : ((Int.tmod a1 2) != 1) = true := bne_iff_ne.mpr c5
      by_cases c15 : a1 ≥ 2
      ·rw [if_pos c15] at H
       have c15b0 : decide (2 ≤ a1) = true := decide_eq_true c15
       clear c15
       replace H := Option.bind_eq_some_iff.mp H
       obtain ⟨t165, A160, H⟩ := H
       replace H : (if x5_1.length < 70368744177664 then (bilgeref40_laid.l0 k1 l0 a1 (x5_1 ++ [t165]) (wrap64 (x6_1 + 1))) else (none)) = some r := H
       have A16 := Aside0.mk A160
       clear A160
       by_cases c17 : x5_1.length < 70368744177664
       ·rw [if_pos c17] at H
        have LMc17 := Aside0.mk c17
        clear c17
        obtain ⟨y166, hy166⟩ : ∃ y_ : List Int, y_ = (x5_1 ++ [t165]) := ⟨_, rfl⟩
        replace H : (bilgeref40_laid.l0 k1 l0 a1 y166 (wrap64 (x6_1 + 1))) = some r := by first | (rw [hy166]; with_reducible exact H) | (have H2_ := (Option.bind_some _ _).symm.trans H; rw [hy166]; with_reducible exact H2_) | (have H2_ := (Option.bind_some _ _).symm.trans H; with_reducible exact H2_) | with_reducible exact H | (rw [hy166]; exact H) | exact H
        have Ny166 := Aside0.mk hy166
        clear hy166
        have H' := Aside0.mk H
        clear H
        have p156 : 0 ≤ (x6_1 : Int) := of_decide_eq_true (by first | (with_reducible assumption) | assumption)
        have q156 : x6_1 < (l0.length : Int) := of_decide_eq_true (by first | (with_reducible assumption) | assumption)
        obtain ⟨ad156, e156, hx156_0⟩ := Kd.at_int HR0.out x6_1 p156 q156
        cases e156
        replace hx156_0 := (HB.out.cell (World.block_lt_of_cell? w _ hx156_0)).trans hx156_0
        replace p156 := eq_true p156
        replace q156 := eq_true q156
        go_wp2_with (first | ((with_reducible refine gate_callee (f := 84) rfl ?_); refine goesL_ (some 32) rfl rfl Try.func84 (by kernel_rfl) rfl #[.int .u16 (rd l0 x6_1)] rfl (by (try simp only [List.map_toArray, List.map_cons, List.map_nil]); first | done | rfl | (simp only [List.length_drop, List.length_take]; rfl)) ?_; (with_reducible refine (bilgeref40_turn.calls (rd l0 x6_1) t165 _ A16.out).mono ?_); rintro e w' ⟨rfl, ⟨nd, rfl⟩⟩; refine ⟨_, rfl, ?_⟩) | ((with_reducible refine gate_builtin (b := .append) (xs := #[.tmp 33, .tmp 35]) rfl ?_); at_builtin; refine Kd.R_append (Kd.int .u16) (w0 := w) w.heap.size rfl (.tmp 33) (.tmp 35) 39 55 (.int .u16 0) 2 rfl Try.underlying39 info55 rfl (by decide) (by omega) u5 x5_1 t165 [.int .u16 t165] (fun _ => True) (fun _ => False) rfl rfl ?aP (fun _ hk => hk.elim) ?aF ?aO ?aB ?aS ?aL ?_; (case aP => exact rfl); (case aB => exact (by repeat (first | (with_reducible first | exact HB.out | apply below_alloc | apply pw_below_drewN | apply below_drew1) | exact HB.out))); (case aF => exact (fun _ _ => trivial)); (case aO => exact (by (with_reducible repeat (first | apply Kd.R_alloc | apply Kd.R_drewN | apply Kd.R_drew)); exact HO_5.out)); (case aS => exact (below_size (by repeat (first | (with_reducible first | exact HB.out | apply below_alloc | apply pw_below_drewN | apply below_drew1) | exact HB.out)))); (case aL => have := LMc17.out; omega); intro v167 w18 ho hb hg hat; rw [← Ny166.out] at ho; have n0_ := Aside0.mk (hb); have n1_ := Aside0.mk (ho); clear HB; clear HO_5; have HB := n0_; have HO168 := n1_; clear n0_ n1_; clear ho hb hg hat))
        all_goals try (first | exact absurd (of_decide_eq_true c3b0) (by assumption) | exact absurd (of_decide_eq_true c4b0) (by assumption) | exact absurd (of_decide_eq_true c15b0) (by assumption))
        go_roundg k1
        case measure => have := HK1.out; omega
        case rel => exact ⟨(y166), (wrap64 (x6_1 + 1)), (by first | rfl | (simp; done) | (simp [*]; done)), H', ⟨by have := HK1.out; omega⟩, ⟨by (with_reducible repeat (first | apply Kd.R_alloc | apply Kd.R_drewN | apply Kd.R_drew)); exact HO168.out⟩, ⟨by repeat (first | (with_reducible first | exact HB.out | apply below_alloc | apply pw_below_drewN | apply below_drew1) | exact HB.out)⟩⟩
       ·rw [if_neg c17] at H
        exact absurd H (by simp)
      ·rw [if_neg c15] at H
       have c15b0 : decide (2 ≤ a1) = false := decide_eq_false c15
       clear c15
       by_cases c19 : x5_1.length < 70368744177664
       ·rw [if_pos c19] at H
        have LMc19 := Aside0.mk c19
        clear c19
        obtain ⟨y169, hy169⟩ : ∃ y_ : List Int, y_ = (x5_1 ++ [rd l0 x6_1]) := ⟨_, rfl⟩
        replace H : (bilgeref40_laid.l0 k1 l0 a1 y169 (wrap64 (x6_1 + 1))) = some r := by first | (rw [hy169]; with_reducible exact H) | (have H2_ := (Option.bind_some _ _).symm.trans H; rw [hy169]; with_reducible exact H2_) | (have H2_ := (Option.bind_some _ _).symm.trans H; with_reducible exact H2_) | with_reducible exact H | (rw [hy169]; exact H) | exact H
        have Ny169 := Aside0.mk hy169
        clear hy169
        have H' := Aside0.mk H
        clear H
        have p156 : 0 ≤ (x6_1 : Int) := of_decide_eq_true (by first | (with_reducible assumption) | assumption)
        have q156 : x6_1 < (l0.length : Int) := of_decide_eq_true (by first | (with_reducible assumption) | assumption)
        obtain ⟨ad156, e156, hx156_0⟩ := Kd.at_int HR0.out x6_1 p156 q156
        cases e156
        replace hx156_0 := (HB.out.cell (World.block_lt_of_cell? w _ hx156_0)).trans hx156_0
        replace p156 := eq_true p156
        replace q156 := eq_true q156
        go_wp2_with (first | ((with_reducible refine gate_builtin (b := .append) (xs := #[.tmp 33, .tmp 35]) rfl ?_); at_builtin; refine Kd.R_append (Kd.int .u16) (w0 := w) w.heap.size rfl (.tmp 33) (.tmp 35) 39 55 (.int .u16 0) 2 rfl Try.underlying39 info55 rfl (by decide) (by omega) u5 x5_1 (rd l0 x6_1) [.int .u16 (rd l0 x6_1)] (fun _ => True) (fun _ => False) rfl rfl ?aP (fun _ hk => hk.elim) ?aF ?aO ?aB ?aS ?aL ?_; (case aP => exact rfl); (case aB => exact (by repeat (first | (with_reducible first | exact HB.out | apply below_alloc | apply pw_below_drewN | apply below_drew1) | exact HB.out))); (case aF => exact (fun _ _ => trivial)); (case aO => exact (by (with_reducible repeat (first | apply Kd.R_alloc | apply Kd.R_drewN | apply Kd.R_drew)); exact HO_5.out)); (case aS => exact (below_size (by repeat (first | (with_reducible first | exact HB.out | apply below_alloc | apply pw_below_drewN | apply below_drew1) | exact HB.out)))); (case aL => have := LMc19.out; omega); intro v170 w20 ho hb hg hat; rw [← Ny169.out] at ho; have n0_ := Aside0.mk (hb); have n1_ := Aside0.mk (ho); clear HB; clear HO_5; have HB := n0_; have HO171 := n1_; clear n0_ n1_; clear ho hb hg hat))
        all_goals try (first | exact absurd (of_decide_eq_true c3b0) (by assumption) | exact absurd (of_decide_eq_true c4b0) (by assumption) | exact absurd (by assumption) (of_decide_eq_false c15b0))
        go_roundg k1
        case measure => have := HK1.out; omega
        case rel => exact ⟨(y169), (wrap64 (x6_1 + 1)), (by first | rfl | (simp; done) | (simp [*]; done)), H', ⟨by have := HK1.out; omega⟩, ⟨by (with_reducible repeat (first | apply Kd.R_alloc | apply Kd.R_drewN | apply Kd.R_drew)); exact HO171.out⟩, ⟨by repeat (first | (with_reducible first | exact HB.out | apply below_alloc | apply pw_below_drewN | apply below_drew1) | exact HB.out)⟩⟩
       ·rw [if_neg c19] at H
        exact absurd H (by simp)
    ·rw [if_neg c4] at H
     exact absurd H (by simp)
   ·rw [if_neg c3] at H
    have c3b0 : decide (x6_1 < (l0.length : Int)) = false := decide_eq_false c3
    clear c3
    obtain rfl := Option.some.inj H
    go_wp2
    all_goals try (first | exact absurd (by assumption) (of_decide_eq_false c3b0))
    go_ret
    exact ⟨_, by first | rfl | (simp [errW_none, errW_some] <;> rfl) | (simp [*, errW_none, errW_some] <;> rfl), by (with_reducible repeat (first | apply Kd.R_alloc | apply Kd.R_drewN | apply Kd.R_drew)); exact HO_5.out, by repeat (first | (with_reducible first | exact HB.out | apply below_alloc | apply pw_below_drewN | apply below_drew1) | exact HB.out)⟩

end Go.Proofs.Ytnaedmakkefdfaa.P
