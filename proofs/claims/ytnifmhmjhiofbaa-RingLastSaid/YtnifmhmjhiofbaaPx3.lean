-- Written by the session's own turn of the kit's print program (wip/patch_print.py). Not trusted: Lean checks it.
import Derived.Test.YtnifmhmjhiofbaaPx0
import Derived.Test.YtnifmhmjhiofbaaPx2
namespace Go.Proofs.Ytnifmhmjhiofbaa.P
open Go.RowKit Go.Proofs.YtnifmhmjhiofbaaW.PrintWords Go.Proofs.YtnifmhmjhiofbaaW.PrintLast Go.Proofs.YtnifmhmjhiofbaaW.PrintMore
attribute [local go_sem] max2_int min2_int max_two min_two max_three min_three max_four min_four   -- for this text's walks alone
set_option linter.unusedVariables false
set_option linter.unusedSimpArgs false

/-! ### bilgelaw07_RingLast: function 3 -/
def bilgelaw07_RingLast.f (a0 a1 : Int) (l2 : List Int) : Option Bool := if 0 ≤ a0 ∧ a0 ≤ 255 ∧ 0 ≤ a1 ∧ a1 ≤ 255 ∧ l2.length ≤ 281474976710656 then some true else none
/-- The last things of so many, the other way round. -/
def Ring.S (n : Int) (l : List Int) (i : Nat) : List Int := ((l.take i).reverse).take n.toNat
theorem Ring.S_step (n : Int) (l : List Int) (i : Nat) (h : i < l.length) : ((rd l (i : Int)) :: Ring.S n l i).take n.toNat = Ring.S n l (i + 1) := by
  unfold Ring.S
  rw [List.take_succ_eq_append_getElem h, List.reverse_append, List.reverse_singleton, List.singleton_append]
  have : rd l (i : Int) = l[i] := by simp [rd, List.getD, h]
  rw [this]
  cases n.toNat with
  | zero => simp
  | succ k => rw [List.take_succ_cons, List.take_succ_cons, List.take_take]; congr 2; omega
theorem Ring.S_len (n : Int) (l : List Int) (hn : 0 ≤ n) : ((Ring.S n l l.length).length : Int) = mn n l.length := by
  unfold Ring.S mn
  rw [List.length_take, List.length_reverse, List.length_take]
  split <;> omega
theorem Ring.S_at (n : Int) (l : List Int) (i : Int) (h0 : 0 ≤ i) (h : i < (Ring.S n l l.length).length) : rd (Ring.S n l l.length) i = rd l ((l.length : Int) - 1 - i) := by
  unfold Ring.S at h ⊢
  rw [List.length_take, List.length_reverse, List.length_take] at h
  simp only [rd, List.getD_eq_getElem?_getD, List.getElem?_take, List.take_length]
  rw [if_pos (by omega), List.getElem?_reverse (by omega)]
  congr 2
  omega
set_option maxHeartbeats 8000000 in
set_option maxRecDepth 100000 in
theorem bilgelaw07_RingLast.calls (a0 : Int) (a1 : Int) (A2 : Option Addr) (c2 : Nat) (l2 : List Int) (r : Bool) (w : World) (hr2 : Kd.C (Kd.int .u8) w A2 l2.length l2) (hc2 : l2.length ≤ c2) (h : bilgelaw07_RingLast.f a0 a1 l2 = some r) :
    Calls Try.prog 3 #[.int .u8 a0, .int .u8 a1, .slice A2 l2.length c2] w fun e w' => e = .returned (.bool r) ∧ Below w.heap.size w w' := by
  unfold bilgelaw07_RingLast.f at h
  by_cases hc : 0 ≤ a0 ∧ a0 ≤ 255 ∧ 0 ≤ a1 ∧ a1 ≤ 255 ∧ l2.length ≤ 281474976710656
  · rw [if_pos hc] at h
    obtain rfl := Option.some.inj h
    clear h
    obtain ⟨k1, k2, k3, k4, k5⟩ := hc
    have HR := Aside0.mk hr2
    have HB := Aside0.mk (Below.refl w.heap.size w)
    clear hr2
    by_cases hl : (l2.length : Int) > 300
    · go_enter Try.func3, Try.ntmps3
      go_wp2_with (first | (go_at_call 5; with_reducible refine Ring.sure.mono ?_; rintro e w1 ⟨rfl, hb⟩))
      go_ret
      exact ⟨rfl, hb⟩
    · go_enter Try.func3, Try.ntmps3
      go_wp2_with fail
      generalize hm : wrap64 (1 + a0 % 64 + a1 % (65 - (1 + a0 % 64))) = m
      have m1 : 1 + a0 % 64 ≤ m ∧ m ≤ 64 := by
        have q1 := Int.emod_nonneg a1 (show 65 - (1 + a0 % 64) ≠ 0 by omega)
        have q2 := Int.emod_lt_of_pos a1 (show 0 < 65 - (1 + a0 % 64) by omega)
        have q3 : wrap64 (1 + a0 % 64 + a1 % (65 - (1 + a0 % 64))) = 1 + a0 % 64 + a1 % (65 - (1 + a0 % 64)) := Ring.w64 (by omega)
        rw [q3] at hm
        clear q3
        generalize a1 % (65 - (1 + a0 % 64)) = z at q1 q2 hm
        omega
      clear hm
      have n1 : 1 ≤ 1 + a0 % 64 ∧ 1 + a0 % 64 ≤ 64 := by omega
      generalize a1 % (65 - (1 + a0 % 64)) = z
      generalize 1 + a0 % 64 = n at m1 n1
      refine (Ring.new_ok n1.1 n1.2).mono ?_
      rintro e w1 ⟨g, rfl, hg, hV, hb⟩
      have HX := Aside0.mk hV
      have HB := Aside0.mk hb
      have HG := Aside0.mk hg
      have HGl := Aside0.mk (Ring.V_lt hV)
      clear hV hb hg
      go_wp2_with fail
      refine (Ring.new_ok (room := m) (by omega) m1.2).mono ?_
      rintro e w2 ⟨g', rfl, hg', hV', hb'⟩
      have HX2 := Aside0.mk (Ring.V_below HX.out hb')
      have HY := Aside0.mk hV'
      have HG' := Aside0.mk (Nat.le_trans (below_size HB.out) hg')
      have HN := Aside0.mk (show g ≠ g' by have := HGl.out; omega)
      have HB2 := Aside0.mk (below_step HB.out hb')
      clear HX HB hV' hb' hg' HGl
      go_wp2
      go_loopw [11, 40, 41, 42, 43, 44, 45, 46, 47, 48, 49, 50, 51, 52, 53, 54, 55, 56, 57] (fun v11 v40 v41 v42 v43 v44 v45 v46 v47 v48 v49 v50 v51 v52 v53 v54 v55 v56 v57 wr => ∃ i : Nat, i ≤ l2.length ∧ v11 = .int .i64 i ∧ Aside0 (Ring.V wr g n (Ring.S n l2 i)) ∧ Aside0 (Ring.V wr g' m (Ring.S m l2 i)) ∧ Aside0 (Below w.heap.size w wr)) (fun v11 _ _ _ _ _ _ _ _ _ _ _ _ _ _ _ _ _ _ _ => l2.length - (intOf v11).toNat)
      case atStart => exact ⟨0, Nat.zero_le _, rfl, by simpa [Ring.S] using HX2, by simpa [Ring.S] using HY, HB2⟩
      case round =>
        clear HX2 HY HB2
        obtain ⟨i, hi, rfl, HX, HY, HB⟩ := hrel
        by_cases hlt : (i : Int) < l2.length
        · have h0 : (0 : Int) ≤ (i : Int) := by omega
          obtain ⟨ad, ea, hx⟩ := Kd.at_int (Kd.C_below HR.out HB.out) (i : Int) h0 hlt
          rw [Int.toNat_natCast] at hx
          subst ea
          go_wp2_with (first
            | (go_at_call 7; with_reducible refine (Ring.put_ok HX.out _).mono ?_; rintro e w3 ⟨rfl, hV, hg⟩; rw [Ring.S_step n l2 i (by omega)] at hV; have HX2 := Aside0.mk hV; have HY2 := Aside0.mk (Ring.V_grown HY.out hg HN.out.symm); have HB2 := Aside0.mk (HB.out.grown hg (below_size HB.out) (fun k hk => by cases hk; exact HG.out)); clear HB HX HY hV hg hx; have HB := HB2; have HX := HX2; have HY := HY2; clear HB2 HX2 HY2; obtain ⟨ad', ea', hx⟩ := Kd.at_int (Kd.C_below HR.out HB.out) (i : Int) h0 hlt; rw [Int.toNat_natCast] at hx; (have ea2 := Option.some.inj ea'); subst ea2)
            | (go_at_call 7; with_reducible refine (Ring.put_ok HY.out _).mono ?_; rintro e w3 ⟨rfl, hV, hg⟩; rw [Ring.S_step m l2 i (by omega)] at hV; have HY2 := Aside0.mk hV; have HX2 := Aside0.mk (Ring.V_grown HX.out hg HN.out); have HB2 := Aside0.mk (HB.out.grown hg (below_size HB.out) (fun k hk => by cases hk; exact HG'.out)); clear HB HX HY hV hg hx; have HB := HB2; have HX := HX2; have HY := HY2; clear HB2 HX2 HY2))
          go_roundw
          case rel => exact ⟨i + 1, by omega, rfl, HX, HY, HB⟩
          case measure => simp [intOf]; omega
        · obtain rfl : i = l2.length := by omega
          have la := Ring.S_len n l2 (by omega)
          have lb := Ring.S_len m l2 (by omega)
          have sa := fun i h0 h => Ring.S_at n l2 i h0 h
          have sb := fun i h0 h => Ring.S_at m l2 i h0 h
          generalize Ring.S n l2 l2.length = SA at HX la sa
          generalize Ring.S m l2 l2.length = SB at HY lb sb
          have la2 : (if (l2.length : Int) < n then (l2.length : Int) else n) = (SA.length : Int) := by rw [la]; unfold mn; split <;> omega
          have lb2 : (if (l2.length : Int) < m then (l2.length : Int) else m) = (SB.length : Int) := by rw [lb]; unfold mn; split <;> omega
          have lc : (SA.length : Int) ≤ SB.length ∧ (SB.length : Int) ≤ l2.length := by rw [la, lb]; unfold mn; split <;> split <;> omega
          clear la lb
          go_wp2_with (first
            | (go_at_call 8; with_reducible refine (Ring.list_ok HX.out).mono ?_; rintro e w4 ⟨va, rfl, ho, hb⟩; have HB2 := Aside0.mk (below_step HB.out hb); have HY2 := Aside0.mk (Ring.V_below HY.out hb); obtain ⟨Aa, ca, ev⟩ := Kd.R_slice ho; subst ev; have HOA := Aside0.mk ho; clear HB HX HY hb ho; have HB := HB2; have HY := HY2; clear HB2 HY2)
            | (go_at_call 8; with_reducible refine (Ring.list_ok HY.out).mono ?_; rintro e w5 ⟨vb, rfl, ho, hb⟩; have HB2 := Aside0.mk (below_step HB.out hb); have HA2 := Aside0.mk (Kd.R_below HOA.out hb); obtain ⟨Ab, cb, ev⟩ := Kd.R_slice ho; subst ev; have HOB := Aside0.mk ho; clear HB HY hb ho HOA; have HB := HB2; have HOA := HA2; clear HB2 HA2))
          go_loopw [14, 78, 79, 80, 81, 82, 83, 84, 85, 86, 87, 88, 89, 90, 91, 92, 93, 94, 95, 96, 97, 98, 99, 100, 101, 102, 103, 104, 105, 106, 107, 108, 109, 110, 111, 112, 113] (fun v14 v78 v79 v80 v81 v82 v83 v84 v85 v86 v87 v88 v89 v90 v91 v92 v93 v94 v95 v96 v97 v98 v99 v100 v101 v102 v103 v104 v105 v106 v107 v108 v109 v110 v111 v112 v113 wr => ∃ i : Nat, i ≤ SB.length ∧ v14 = .int .i64 i ∧ Aside0 (Below w5.heap.size w5 wr)) (fun v14 _ _ _ _ _ _ _ _ _ _ _ _ _ _ _ _ _ _ _ _ _ _ _ _ _ _ _ _ _ _ _ _ _ _ _ _ _ => SB.length - (intOf v14).toNat)
          case atStart => exact ⟨0, Nat.zero_le _, rfl, ⟨Below.refl _ _⟩⟩
          case round =>
            obtain ⟨i, hi, rfl, HW⟩ := hrel
            have HB2 := Aside0.mk (below_step HB.out HW.out)
            by_cases hlt : (i : Int) < SB.length
            · have h0 : (0 : Int) ≤ (i : Int) := by omega
              obtain ⟨j, hj⟩ : ∃ j : Nat, (l2.length : Int) - 1 - (i : Int) = (j : Int) := ⟨((l2.length : Int) - 1 - (i : Int)).toNat, by omega⟩
              have hj0 : (0 : Int) ≤ (j : Int) := by omega
              have hj1 : (j : Int) < l2.length := by omega
              obtain ⟨adb, eb, hbx⟩ := Kd.at_int (Kd.R_reads' (Kd.R_below HOB.out HW.out)).2.2 (i : Int) h0 hlt
              obtain ⟨ad, ea, hx⟩ := Kd.at_int (Kd.C_below HR.out HB2.out) (j : Int) hj0 hj1
              rw [Int.toNat_natCast] at hbx hx
              subst ea eb
              have sx := sb i h0 hlt
              rw [hj] at sx
              rw [← sx] at hx
              have e1 : IntKind.i64.wrap ((l2.length : Int) - 1) = (l2.length : Int) - 1 := by rw [i64_w]; exact Ring.w64 (by omega)
              have e2 : IntKind.i64.wrap ((l2.length : Int) - 1 - (i : Int)) = (j : Int) := by rw [hj, i64_w]; exact Ring.w64 (by omega)
              have e3 : IntKind.i64.wrap (j : Int) = (j : Int) := by rw [i64_w]; exact Ring.w64 (by omega)
              by_cases hA : (i : Int) < SA.length
              · obtain ⟨ada, ec, hax⟩ := Kd.at_int (Kd.R_reads' (Kd.R_below HOA.out HW.out)).2.2 (i : Int) h0 hA
                rw [Int.toNat_natCast] at hax
                subst ec
                have sy := sa i h0 hA
                rw [hj, ← sx] at sy
                rw [sy] at hax
                generalize rd SB (i : Int) = x at hbx hx hax
                clear sx sy
                go_wp2
                go_quiet (fail)
                go_wp2
                go_roundw
                case rel => exact ⟨i + 1, by omega, rfl, ⟨pw_below_drewN HW.out _⟩⟩
                case measure => simp [intOf]; omega
              · generalize rd SB (i : Int) = x at hbx hx
                clear sx
                go_wp2
                have hA2 : decide (i < SA.length) = false := decide_eq_false (by omega)
                go_quiet (fail)
                go_wp2
                go_roundw
                case rel => exact ⟨i + 1, by omega, rfl, ⟨pw_below_drewN HW.out _⟩⟩
                case measure => simp [intOf]; omega
            · go_wp2_with (first | (go_at_call 5; with_reducible refine Ring.sure.mono ?_; rintro e w1 ⟨rfl, hb⟩))
              go_ret
              exact ⟨rfl, below_step HB2.out hb⟩
  · rw [if_neg hc] at h
    cases h

/-- THE ONE PURE STATEMENT of bilgelaw07_RingLast: yours. -/
def bilgelaw07_RingLast.Pure : Prop := ∀ (x0 : Int) (x1 : Int) (x2 : List Int), (Lit.int .u8 x0).wf = true → (Lit.int .u8 x1).wf = true → (x2.length ≤ maxLen ∧ x2.length * 1 ≤ 140737488351232 ∧ ∀ y0 ∈ x2, (Lit.int .u8 y0).wf = true) → bilgelaw07_RingLast.f x0 x1 x2 = some true

end Go.Proofs.Ytnifmhmjhiofbaa.P
