-- Written by the session's own turn of the kit's print program (wip/patch_print.py). Not trusted: Lean checks it.
import Derived.Test.YtnifmhmjhiofbaaPx0
import Derived.Test.YtnifmhmjhiofbaaPx1
import Derived.Test.YtnifmhmjhiofbaaPx2
namespace Go.Proofs.Ytnifmhmjhiofbaa.P
open Go.RowKit Go.Proofs.YtnifmhmjhiofbaaW.PrintWords Go.Proofs.YtnifmhmjhiofbaaW.PrintLast Go.Proofs.YtnifmhmjhiofbaaW.PrintMore
attribute [local go_sem] max2_int min2_int max_two min_two max_three min_three max_four min_four   -- for this text's walks alone
set_option linter.unusedVariables false
set_option linter.unusedSimpArgs false

/-! ### bilgelaw07_RingLast: function 3 -/
def bilgelaw07_RingLast.f (a0 a1 : Int) (l2 : List Int) : Option Bool := if 0 ≤ a0 ∧ a0 ≤ 255 ∧ 0 ≤ a1 ∧ a1 ≤ 255 ∧ l2.length ≤ 281474976710656 then some true else none
/-- The last things of so many, the other way round. -/
def Ring.S (n : Int) (l : List Int) (i : Nat) : List Int := ((l.take i).reverse).take n.toNat
theorem Ring.S_step (n : Int) (l : List Int) (i : Nat) (h : i < l.length) : ((rd l (i : Int)) :: Ring.S n l i).take n.toNat = Ring.S n l (i + 1) := by
  unfold Ring.S
  rw [List.take_succ_eq_append_getElem h, List.reverse_append, List.reverse_singleton, List.singleton_append]
  have : rd l (i : Int) = l[i] := by simp [rd, List.getD, h]
  rw [this]
  cases n.toNat with
  | zero => simp
  | succ k => rw [List.take_succ_cons, List.take_succ_cons, List.take_take]; congr 2; omega
theorem Ring.S_len (n : Int) (l : List Int) (hn : 0 ≤ n) : ((Ring.S n l l.length).length : Int) = mn n l.length := by
  unfold Ring.S mn
  rw [List.length_take, List.length_reverse, List.length_take]
  split <;> omega
theorem Ring.S_at (n : Int) (l : List Int) (i : Int) (h0 : 0 ≤ i) (h : i < (Ring.S n l l.length).length) : rd (Ring.S n l l.length) i = rd l ((l.length : Int) - 1 - i) := by
  unfold Ring.S at h ⊢
  rw [List.length_take, List.length_reverse, List.length_take] at h
  simp only [rd, List.getD_eq_getElem?_getD, List.getElem?_take, List.take_length]
  rw [if_pos (by omega), List.getElem?_reverse (by omega)]
  congr 2
  omega
set_option maxHeartbeats 8000000 in
set_option maxRecDepth 100000 in
theorem bilgelaw07_RingLast.calls (a0 : Int) (a1 : Int) (A2 : Option Addr) (c2 : Nat) (l2 : List Int) (r : Bool) (w : World) (hr2 : Kd.C (Kd.int .u8) w A2 l2.length l2) (hc2 : l2.length ≤ c2) (h : bilgelaw07_RingLast.f a0 a1 l2 = some r) :
    Calls Try.prog 3 #[.int .u8 a0, .int .u8 a1, .slice A2 l2.length c2] w fun e w' => e = .returned (.bool r) ∧ Below w.heap.size w w' := by
  unfold bilgelaw07_RingLast.f at h
  by_cases hc : 0 ≤ a0 ∧ a0 ≤ 255 ∧ 0 ≤ a1 ∧ a1 ≤ 255 ∧ l2.length ≤ 281474976710656
  · rw [if_pos hc] at h
    obtain rfl := Option.some.inj h
    clear h
    obtain ⟨k1, k2, k3, k4, k5⟩ := hc
    have HR := Aside0.mk hr2
    have HB := Aside0.mk (Below.refl w.heap.size w)
    clear hr2
    by_cases hl : (l2.length : Int) > 300
    · go_enter Try.func3, Try.ntmps3
      go_wp2_with (first | (go_at_call 5; (with_reducible refine Ring.sure.mono ?_); rintro e w1 ⟨rfl, hb⟩))
      go_ret
      exact ⟨rfl, hb⟩
    · go_enter Try.func3, Try.ntmps3
      go_wp2_with fail
      generalize hm : wrap64 (1 + a0 % 64 + a1 % (65 - (1 + a0 % 64))) = m
      have m1 : 1 + a0 % 64 ≤ m ∧ m ≤ 64 := by
        have q1 := Int.emod_nonneg a1 (show 65 - (1 + a0 % 64) ≠ 0 by omega)
        have q2 := Int.emod_lt_of_pos a1 (show 0 < 65 - (1 + a0 % 64) by omega)
        have q3 : wrap64 (1 + a0 % 64 + a1 % (65 - (1 + a0 % 64))) = 1 + a0 % 64 + a1 % (65 - (1 + a0 % 64)) := Ring.w64 (by omega)
        rw [q3] at hm
        clear q3
        generalize a1 % (65 - (1 + a0 % 64)) = z at q1 q2 hm
        omega
      clear hm
      have n1 : 1 ≤ 1 + a0 % 64 ∧ 1 + a0 % 64 ≤ 64 := by omega
      generalize a1 % (65 - (1 + a0 % 64)) = z
      generalize 1 + a0 % 64 = n at m1 n1
      refine (Ring.new_ok n1.1 n1.2).mono ?_
      rintro e w1 ⟨g, rfl, hg, hV, hb⟩
      have HX := Aside0.mk hV
      have HB := Aside0.mk hb
      have HG := Aside0.mk hg
      have HGl := Aside0.mk (Ring.V_lt hV)
      clear hV hb hg
      go_wp2_with fail
      refine (Ring.new_ok (room := m) (by omega) m1.2).mono ?_
      rintro e w2 ⟨g', rfl, hg', hV', hb'⟩
      have HX2 := Aside0.mk (Ring.V_below HX.out hb')
      have HY := Aside0.mk hV'
      have HG' := Aside0.mk (Nat.le_trans (below_size HB.out) hg')
      have HN := Aside0.mk (show g ≠ g' by have := HGl.out; omega)
      have HB2 := Aside0.mk (below_step HB.out hb')
      clear HX HB hV' hb' hg' HGl
      go_wp2
      go_loopw [11, 40, 41, 42, 43, 44, 45, 46, 47, 48, 49, 50, 51, 52, 53, 54, 55, 56, 57] (fun v11 v40 v41 v42 v43 v44 v45 v46 v47 v48 v49 v50 v51 v52 v53 v54 v55 v56 v57 wr => ∃ i : Nat, i ≤ l2.length ∧ v11 = .int .i64 i ∧ Aside0 (Ring.V wr g n (Ring.S n l2 i)) ∧ Aside0 (Ring.V wr g' m (Ring.S m l2 i)) ∧ Aside0 (Below w.heap.size w wr)) (fun v11 _ _ _ _ _ _ _ _ _ _ _ _ _ _ _ _ _ _ _ => l2.length - (intOf v11).toNat)
      case atStart => exact ⟨0, Nat.zero_le _, rfl, by simpa [Ring.S] using HX2, by simpa [Ring.S] using HY, HB2⟩
      case round =>
        clear HX2 HY HB2
        obtain ⟨i, hi, rfl, HX, HY, HB⟩ := hrel
        by_cases hlt : (i : Int) < l2.length
        · have h0 : (0 : Int) ≤ (i : Int) := by omega
          obtain ⟨ad, ea, hx⟩ := Kd.at_int (Kd.C_below HR.out HB.out) (i : Int) h0 hlt
          rw [Int.toNat_natCast] at hx
          subst ea
          go_wp2_with (first
            | (go_at_call 7; (with_reducible refine (Ring.put_ok HX.out _).mono ?_); rintro e w3 ⟨rfl, hV, hg⟩; rw [Ring.S_step n l2 i (by omega)] at hV; have HX2 := Aside0.mk hV; have HY2 := Aside0.mk (Ring.V_grown HY.out hg HN.out.symm); have HB2 := Aside0.mk (HB.out.grown hg (below_size HB.out) (fun k hk => by cases hk; exact HG.out)); clear HB HX HY hV hg hx; have HB := HB2; have HX := HX2; have HY := HY2; clear HB2 HX2 HY2; obtain ⟨ad', ea', hx⟩ := Kd.at_int (Kd.C_below HR.out HB.out) (i : Int) h0 hlt; rw [Int.toNat_natCast] at hx; (have ea2 := Option.some.inj ea'); subst ea2)
            | (go_at_call 7; (with_reducible refine (Ring.put_ok HY.out _).mono ?_); rintro e w3 ⟨rfl, hV, hg⟩; rw [Ring.S_step m l2 i (by omega)] at hV; have HY2 := Aside0.mk hV; have HX2 := Aside0.mk (Ring.V_grown HX.out hg HN.out); have HB2 := Aside0.mk (HB.out.grown hg (below_size HB.out) (fun k hk => by cases hk; exact HG'.out)); clear HB HX HY hV hg hx; have HB := HB2; have HX := HX2; have HY := HY2; clear HB2 HX2 HY2))
          go_roundw
          case rel => exact ⟨i + 1, by omega, rfl, HX, HY, HB⟩
          case measure => simp [intOf]; omega
        · obtain rfl : i = l2.length := by omega
          have la := Ring.S_len n l2 (by omega)
          have lb := Ring.S_len m l2 (by omega)
          have sa := fun i h0 h => Ring.S_at n l2 i h0 h
          have sb := fun i h0 h => Ring.S_at m l2 i h0 h
          generalize Ring.S n l2 l2.length = SA at HX la sa
          generalize Ring.S m l2 l2.length = SB at HY lb sb
          have la2 : (if (l2.length : Int) < n then (l2.length : Int) else n) = (SA.length : Int) := by rw [la]; unfold mn; split <;> omega
          have lb2 : (if (l2.length : Int) < m then (l2.length : Int) else m) = (SB.length : Int) := by rw [lb]; unfold mn; split <;> omega
          have lc : (SA.length : Int) ≤ SB.length ∧ (SB.length : Int) ≤ l2.length := by rw [la, lb]; unfold mn; split <;> split <;> omega
          clear la lb
          go_wp2_with (first
            | (go_at_call 8; (with_reducible refine (Ring.list_ok HX.out).mono ?_); rintro e w4 ⟨va, rfl, ho, hb⟩; have HB2 := Aside0.mk (below_step HB.out hb); have HY2 := Aside0.mk (Ring.V_below HY.out hb); obtain ⟨Aa, ca, ev⟩ := Kd.R_slice ho; subst ev; have HOA := Aside0.mk ho; clear HB HX HY hb ho; have HB := HB2; have HY := HY2; clear HB2 HY2)
            | (go_at_call 8; (with_reducible refine (Ring.list_ok HY.out).mono ?_); rintro e w5 ⟨vb, rfl, ho, hb⟩; have HB2 := Aside0.mk (below_step HB.out hb); have HA2 := Aside0.mk (Kd.R_below HOA.out hb); obtain ⟨Ab, cb, ev⟩ := Kd.R_slice ho; subst ev; have HOB := Aside0.mk ho; clear HB HY hb ho HOA; have HB := HB2; have HOA := HA2; clear HB2 HA2))
          go_loopw [14, 78, 79, 80, 81, 82, 83, 84, 85, 86, 87, 88, 89, 90, 91, 92, 93, 94, 95, 96, 97, 98, 99, 100, 101, 102, 103, 104, 105, 106, 107, 108, 109, 110, 111, 112, 113] (fun v14 v78 v79 v80 v81 v82 v83 v84 v85 v86 v87 v88 v89 v90 v91 v92 v93 v94 v95 v96 v97 v98 v99 v100 v101 v102 v103 v104 v105 v106 v107 v108 v109 v110 v111 v112 v113 wr => ∃ i : Nat, i ≤ SB.length ∧ v14 = .int .i64 i ∧ Aside0 (Below w5.heap.size w5 wr)) (fun v14 _ _ _ _ _ _ _ _ _ _ _ _ _ _ _ _ _ _ _ _ _ _ _ _ _ _ _ _ _ _ _ _ _ _ _ _ _ => SB.length - (intOf v14).toNat)
          case atStart => exact ⟨0, Nat.zero_le _, rfl, ⟨Below.refl _ _⟩⟩
          case round =>
            obtain ⟨i, hi, rfl, HW⟩ := hrel
            have HB2 := Aside0.mk (below_step HB.out HW.out)
            by_cases hlt : (i : Int) < SB.length
            · have h0 : (0 : Int) ≤ (i : Int) := by omega
              obtain ⟨j, hj⟩ : ∃ j : Nat, (l2.length : Int) - 1 - (i : Int) = (j : Int) := ⟨((l2.length : Int) - 1 - (i : Int)).toNat, by omega⟩
              have hj0 : (0 : Int) ≤ (j : Int) := by omega
              have hj1 : (j : Int) < l2.length := by omega
              obtain ⟨adb, eb, hbx⟩ := Kd.at_int (Kd.R_reads' (Kd.R_below HOB.out HW.out)).2.2 (i : Int) h0 hlt
              obtain ⟨ad, ea, hx⟩ := Kd.at_int (Kd.C_below HR.out HB2.out) (j : Int) hj0 hj1
              rw [Int.toNat_natCast] at hbx hx
              subst ea eb
              have sx := sb i h0 hlt
              rw [hj] at sx
              rw [← sx] at hx
              have e1 : IntKind.i64.wrap ((l2.length : Int) - 1) = (l2.length : Int) - 1 := by rw [i64_w]; exact Ring.w64 (by omega)
              have e2 : IntKind.i64.wrap ((l2.length : Int) - 1 - (i : Int)) = (j : Int) := by rw [hj, i64_w]; exact Ring.w64 (by omega)
              have e3 : IntKind.i64.wrap (j : Int) = (j : Int) := by rw [i64_w]; exact Ring.w64 (by omega)
              by_cases hA : (i : Int) < SA.length
              · obtain ⟨ada, ec, hax⟩ := Kd.at_int (Kd.R_reads' (Kd.R_below HOA.out HW.out)).2.2 (i : Int) h0 hA
                rw [Int.toNat_natCast] at hax
                subst ec
                have sy := sa i h0 hA
                rw [hj, ← sx] at sy
                rw [sy] at hax
                generalize rd SB (i : Int) = x at hbx hx hax
                clear sx sy
                go_wp2
                go_quiet (fail)
                go_wp2
                go_roundw
                case rel => exact ⟨i + 1, by omega, rfl, ⟨pw_below_drewN HW.out _⟩⟩
                case measure => simp [intOf]; omega
              · generalize rd SB (i : Int) = x at hbx hx
                clear sx
                go_wp2
                have hA2 : decide (i < SA.length) = false := decide_eq_false (by omega)
                go_quiet (fail)
                go_wp2
                go_roundw
                case rel => exact ⟨i + 1, by omega, rfl, ⟨pw_below_drewN HW.out _⟩⟩
                case measure => simp [intOf]; omega
            · go_wp2_with (first | (go_at_call 5; (with_reducible refine Ring.sure.mono ?_); rintro e w1 ⟨rfl, hb⟩))
              go_ret
              exact ⟨rfl, below_step HB2.out hb⟩
  · rw [if_neg hc] at h
    cases h

/-- THE ONE PURE STATEMENT of bilgelaw07_RingLast: yours. -/
def bilgelaw07_RingLast.Pure : Prop := ∀ (x0 : Int) (x1 : Int) (x2 : List Int), (Lit.int .u8 x0).wf = true → (Lit.int .u8 x1).wf = true → (x2.length ≤ maxLen ∧ x2.length * 1 ≤ 140737488351232 ∧ ∀ y0 ∈ x2, (Lit.int .u8 y0).wf = true) → bilgelaw07_RingLast.f x0 x1 x2 = some true

/-! ### bilgelaw07_RingKeeps: function 4 -/
def bilgelaw07_RingKeeps.f (a0 : Int) (l1 : List S31) : Option Bool := if l1.length ≤ 281474976710656 then some true else none
theorem Ring.refput {L : List Int} {room b : Int} (h1 : 1 ≤ room) (h2 : room ≤ 64) (hL : (L.length : Int) ≤ room) : bilgeref07_Put.f L room b = some ((b :: L).take room.toNat) := by
  unfold bilgeref07_Put.f
  simp only [Option.bind_some, List.length_nil, List.nil_append, List.length_append, List.length_cons]
  rw [if_pos (by omega), if_pos (by omega)]
  by_cases h : (((0 + 1 + L.length : Nat)) : Int) > room
  · rw [if_pos h, if_pos (by omega), if_pos (by omega)]; rfl
  · rw [if_neg h, List.take_of_length_le (by simp; omega)]; rfl
theorem Ring.V_len {w : World} {g : Nat} {room : Int} {L : List Int} (h : Ring.V w g room L) : 1 ≤ room ∧ room ≤ 64 ∧ (L.length : Int) ≤ room := by
  obtain ⟨_, _, _, hO⟩ := h
  exact ⟨hO.1, hO.2.1, hO.2.2.2.2.2.1⟩
theorem Ring.R_put {w w1 : World} {g : Nat} {room : Int} {L M : List Int} {base : Nat} {v : Value} (hV : Ring.V w g room L) (h : Kd.R (Kd.int .u8) 5 w base (fun _ => True) v M) (hg : w.grownBy w1 (some g)) : Kd.R (Kd.int .u8) 5 w1 base (fun _ => True) v M := by
  obtain ⟨all, next, hA, _⟩ := hV
  exact Kd.R_mono (Kd.R_grown (Kd.R_types h hA.1 (by decide)) hg (fun k hk e => hk.2 (by injection e))) (fun _ _ => trivial)
set_option maxHeartbeats 16000000 in
set_option maxRecDepth 100000 in
theorem bilgelaw07_RingKeeps.calls (a0 : Int) (A1 : Option Addr) (c1 : Nat) (l1 : List (S31)) (r : Bool) (w : World) (hr1 : Kd.C k31 w A1 l1.length l1) (hc1 : l1.length ≤ c1) (h : bilgelaw07_RingKeeps.f a0 l1 = some r) :
    Calls Try.prog 4 #[.int .i64 a0, .slice A1 l1.length c1] w fun e w' => e = .returned (.bool r) ∧ Below w.heap.size w w' := by
  unfold bilgelaw07_RingKeeps.f at h
  by_cases hc : l1.length ≤ 281474976710656
  · rw [if_pos hc] at h
    obtain rfl := Option.some.inj h
    clear h
    have HR := Aside0.mk hr1
    clear hr1
    have hu31 := Try.underlying31
    by_cases hl : (l1.length : Int) > 300
    · go_enter Try.func4, Try.ntmps4
      go_wp2_with (first | (go_at_call 5; (with_reducible refine Ring.sure.mono ?_); rintro e w1 ⟨rfl, hb⟩))
      go_ret
      exact ⟨rfl, hb⟩
    · by_cases hr : 1 ≤ a0 ∧ a0 ≤ 64
      · obtain ⟨r1, r2⟩ := hr
        go_enter Try.func4, Try.ntmps4
        go_wp2_with (first | (go_at_call 6; (with_reducible refine (Ring.new_ok r1 r2).mono ?_); rintro e w1 ⟨g, rfl, hg, hV, hb⟩; have HV := Aside0.mk hV; have HB := Aside0.mk hb; have HG := Aside0.mk hg; clear hV hb hg))
        have HO := Aside0.mk (Kd.R_nil (Kd.int .u8) 5 w1 w.heap.size (fun _ => True))
        go_loopw [5, 6, 7, 8, 9, 10, 30, 31, 32, 33, 34, 35, 36, 37, 38, 39, 40, 41, 42, 43, 44, 45, 46, 47, 48, 49, 50, 51, 52, 53, 54, 55, 56, 57, 58, 59, 60, 61, 62, 63, 64, 65, 66, 67, 68, 69, 70, 71, 72, 73, 74, 75, 76, 77, 78, 79, 80, 81, 82, 83, 84, 85, 86, 87, 88, 89, 90, 91, 92, 93, 94, 95, 96, 97, 98, 99, 100, 101, 102, 103, 104, 105, 106, 107, 108] (fun v5 v6 v7 v8 v9 v10 v30 v31 v32 v33 v34 v35 v36 v37 v38 v39 v40 v41 v42 v43 v44 v45 v46 v47 v48 v49 v50 v51 v52 v53 v54 v55 v56 v57 v58 v59 v60 v61 v62 v63 v64 v65 v66 v67 v68 v69 v70 v71 v72 v73 v74 v75 v76 v77 v78 v79 v80 v81 v82 v83 v84 v85 v86 v87 v88 v89 v90 v91 v92 v93 v94 v95 v96 v97 v98 v99 v100 v101 v102 v103 v104 v105 v106 v107 v108 wr => ∃ (i g : Nat) (L : List Int), i ≤ l1.length ∧ v7 = .int .i64 i ∧ v5 = .pointer (some ⟨g, 0, none⟩) ∧ Aside0 (w.heap.size ≤ g) ∧ Aside0 (Ring.V wr g a0 L) ∧ Aside0 (Kd.R (Kd.int .u8) 5 wr w.heap.size (fun _ => True) v6 L) ∧ Aside0 (Below w.heap.size w wr)) (fun _ _ v7 _ _ _ _ _ _ _ _ _ _ _ _ _ _ _ _ _ _ _ _ _ _ _ _ _ _ _ _ _ _ _ _ _ _ _ _ _ _ _ _ _ _ _ _ _ _ _ _ _ _ _ _ _ _ _ _ _ _ _ _ _ _ _ _ _ _ _ _ _ _ _ _ _ _ _ _ _ _ _ _ _ _ _ => l1.length - (intOf v7).toNat)
        case atStart => exact ⟨0, g, [], Nat.zero_le _, rfl, rfl, HG, HV, HO, HB⟩
        case round =>
          clear HG HV HO HB
          obtain ⟨i, g, L, hi, rfl, rfl, HG, HV, HO, HB⟩ := hrel
          by_cases hlt : (i : Int) < l1.length
          · have h0 : (0 : Int) ≤ (i : Int) := by omega
            obtain ⟨ad, ea, hx0, hx1⟩ := at_T31 (Kd.C_below HR.out HB.out) (i : Int) h0 hlt
            rw [Int.toNat_natCast] at hx0 hx1
            subst ea
            obtain ⟨Av, cv, ev⟩ := Kd.R_slice HO.out
            subst ev
            by_cases k0 : (rd_T31 l1 (i : Int)).f0 = 0
            · go_wp2_with (first
                | (go_at_call 7; (with_reducible refine (Ring.put_ok HV.out _).mono ?_); rintro e w2 ⟨rfl, hV, hg⟩; have HO2 := Aside0.mk (Ring.R_put HV.out HO.out hg); have HB2 := Aside0.mk (HB.out.grown hg (below_size HB.out) (fun k hk => by cases hk; exact HG.out)); have HV2 := Aside0.mk hV; have HLn := Aside0.mk (Ring.V_len HV.out); clear HB HV HO hV hg hx0 hx1; have HB := HB2; have HV := HV2; have HO := HO2; clear HB2 HV2 HO2; (have hat := at_T31 (Kd.C_below HR.out HB.out) (i : Int) h0 hlt); obtain ⟨ad', ea', hx0, hx1⟩ := hat; rw [Int.toNat_natCast] at hx0 hx1; (have ea2 := Option.some.inj ea'); subst ea2)
                | (go_at_call 9; (with_reducible refine (bilgeref07_Put.calls _ _ L a0 _ _ _ (Kd.R_reads' HO.out).2.2 (Kd.R_reads' HO.out).2.1 (Ring.refput r1 r2 HLn.out.2.2)).mono ?_); rintro e w3 ⟨v3, rfl, ho, hb⟩; have HO2 := Aside0.mk (Kd.R_lower ho (below_size HB.out)); have HV2 := Aside0.mk (Ring.V_below HV.out hb); have HB2 := Aside0.mk (below_step HB.out hb); clear HB hb HV HO ho hx0 hx1; have HB := HB2; have HV := HV2; have HO := HO2; clear HB2 HV2 HO2; generalize ((rd_T31 l1 (i : Int)).f1 :: L).take a0.toNat = LX at HV HO; obtain ⟨Av2, cv2, ev2⟩ := Kd.R_slice HO.out; subst ev2))
              cases LX with
              | nil =>
                go_wp2_with (first
                  | (go_at_call 12; (with_reducible refine (Ring.last_ok HV.out).mono ?_); rintro e w5 ⟨rfl, hb⟩; have HV2 := Aside0.mk (Ring.V_below HV.out hb); have HO2 := Aside0.mk (Kd.R_below HO.out hb); have HB2 := Aside0.mk (below_step HB.out hb); clear HB hb HV HO; have HB := HB2; have HV := HV2; have HO := HO2; clear HB2 HV2 HO2)
                  | (go_at_call 8; (with_reducible refine (Ring.list_ok HV.out).mono ?_); rintro e w6 ⟨vl, rfl, ho, hb⟩; have HV2 := Aside0.mk (Ring.V_below HV.out hb); have HO2 := Aside0.mk (Kd.R_below HO.out hb); have HB2 := Aside0.mk (below_step HB.out hb); clear HB hb HV HO; have HB := HB2; have HV := HV2; have HO := HO2; clear HB2 HV2 HO2; obtain ⟨Al, cl, el⟩ := Kd.R_slice ho; subst el; have HL := Aside0.mk ho; clear ho)
                  | (go_at_call 13; refine (Ring.bytes HL.out HO.out (by have := (Ring.V_len HV.out).2.2; omega)).mono ?_; rintro e w7 ⟨rfl, hb⟩; have HV2 := Aside0.mk (Ring.V_below HV.out hb); have HO2 := Aside0.mk (Kd.R_below HO.out hb); have HB2 := Aside0.mk (below_step HB.out hb); clear HB hb HV HO; have HB := HB2; have HV := HV2; have HO := HO2; clear HB2 HV2 HO2)
                  | (go_at_call 14; (with_reducible refine (Ring.len_ok HV.out).mono ?_); rintro e w8 ⟨rfl, hb⟩; have HV2 := Aside0.mk (Ring.V_below HV.out hb); have HO2 := Aside0.mk (Kd.R_below HO.out hb); have HB2 := Aside0.mk (below_step HB.out hb); clear HB hb HV HO; have HB := HB2; have HV := HV2; have HO := HO2; clear HB2 HV2 HO2))
                go_roundw
                case rel => exact ⟨i + 1, _, _, by omega, rfl, rfl, HG, HV, HO, HB⟩
                case measure => simp [intOf]; omega
              | cons x M =>
                obtain ⟨go, co, eo, gb, gl, cl, hG⟩ := Kd.R_form HO.out (by simp)
                injection eo with e1 e2 e3
                subst e1
                subst e3
                clear e2 hG gb gl cl
                go_wp2_with (first
                  | (go_at_call 12; (with_reducible refine (Ring.last_ok HV.out).mono ?_); rintro e w5 ⟨rfl, hb⟩; have HV2 := Aside0.mk (Ring.V_below HV.out hb); have HO2 := Aside0.mk (Kd.R_below HO.out hb); have HB2 := Aside0.mk (below_step HB.out hb); clear HB hb HV HO; have HB := HB2; have HV := HV2; have HO := HO2; clear HB2 HV2 HO2)
                  | (go_at_call 8; (with_reducible refine (Ring.list_ok HV.out).mono ?_); rintro e w6 ⟨vl, rfl, ho, hb⟩; have HV2 := Aside0.mk (Ring.V_below HV.out hb); have HO2 := Aside0.mk (Kd.R_below HO.out hb); have HB2 := Aside0.mk (below_step HB.out hb); clear HB hb HV HO; have HB := HB2; have HV := HV2; have HO := HO2; clear HB2 HV2 HO2; obtain ⟨Al, cl, el⟩ := Kd.R_slice ho; subst el; have HL := Aside0.mk ho; clear ho)
                  | (go_at_call 13; refine (Ring.bytes HL.out HO.out (by have := (Ring.V_len HV.out).2.2; omega)).mono ?_; rintro e w7 ⟨rfl, hb⟩; have HV2 := Aside0.mk (Ring.V_below HV.out hb); have HO2 := Aside0.mk (Kd.R_below HO.out hb); have HB2 := Aside0.mk (below_step HB.out hb); clear HB hb HV HO; have HB := HB2; have HV := HV2; have HO := HO2; clear HB2 HV2 HO2)
                  | (go_at_call 14; (with_reducible refine (Ring.len_ok HV.out).mono ?_); rintro e w8 ⟨rfl, hb⟩; have HV2 := Aside0.mk (Ring.V_below HV.out hb); have HO2 := Aside0.mk (Kd.R_below HO.out hb); have HB2 := Aside0.mk (below_step HB.out hb); clear HB hb HV HO; have HB := HB2; have HV := HV2; have HO := HO2; clear HB2 HV2 HO2; (have hw0 := (Kd.R_celln 0 HO.out 0 (by decide) (by simp)).1); replace hw0 : w8.cell? ⟨go, 0, none⟩ = some (.int .u8 x) := hw0))
                go_roundw
                case rel => exact ⟨i + 1, _, _, by omega, rfl, rfl, HG, HV, HO, HB⟩
                case measure => simp [intOf]; omega
            · by_cases k1 : (rd_T31 l1 (i : Int)).f0 = 1
              · go_wp2_with (first | (go_at_call 10; (with_reducible refine (Ring.clear_ok HV.out).mono ?_); rintro e w2 ⟨rfl, hV, hg⟩; have HB2 := Aside0.mk (HB.out.grown hg (below_size HB.out) (fun k hk => by cases hk; exact HG.out)); have HV2 := Aside0.mk hV; clear HB HV HO hV hg hx0 hx1; have HB := HB2; have HV := HV2; clear HB2 HV2; have HO := Aside0.mk (Kd.R_nil (Kd.int .u8) 5 w2 w.heap.size (fun _ => True))))
                go_wp2_with (first
                  | (go_at_call 12; (with_reducible refine (Ring.last_ok HV.out).mono ?_); rintro e w5 ⟨rfl, hb⟩; have HV2 := Aside0.mk (Ring.V_below HV.out hb); have HO2 := Aside0.mk (Kd.R_below HO.out hb); have HB2 := Aside0.mk (below_step HB.out hb); clear HB hb HV HO; have HB := HB2; have HV := HV2; have HO := HO2; clear HB2 HV2 HO2)
                  | (go_at_call 8; (with_reducible refine (Ring.list_ok HV.out).mono ?_); rintro e w6 ⟨vl, rfl, ho, hb⟩; have HV2 := Aside0.mk (Ring.V_below HV.out hb); have HO2 := Aside0.mk (Kd.R_below HO.out hb); have HB2 := Aside0.mk (below_step HB.out hb); clear HB hb HV HO; have HB := HB2; have HV := HV2; have HO := HO2; clear HB2 HV2 HO2; obtain ⟨Al, cl, el⟩ := Kd.R_slice ho; subst el; have HL := Aside0.mk ho; clear ho)
                  | (go_at_call 13; refine (Ring.bytes HL.out HO.out (by have := (Ring.V_len HV.out).2.2; omega)).mono ?_; rintro e w7 ⟨rfl, hb⟩; have HV2 := Aside0.mk (Ring.V_below HV.out hb); have HO2 := Aside0.mk (Kd.R_below HO.out hb); have HB2 := Aside0.mk (below_step HB.out hb); clear HB hb HV HO; have HB := HB2; have HV := HV2; have HO := HO2; clear HB2 HV2 HO2)
                  | (go_at_call 14; (with_reducible refine (Ring.len_ok HV.out).mono ?_); rintro e w8 ⟨rfl, hb⟩; have HV2 := Aside0.mk (Ring.V_below HV.out hb); have HO2 := Aside0.mk (Kd.R_below HO.out hb); have HB2 := Aside0.mk (below_step HB.out hb); clear HB hb HV HO; have HB := HB2; have HV := HV2; have HO := HO2; clear HB2 HV2 HO2))
                go_roundw
                case rel => exact ⟨i + 1, _, _, by omega, rfl, rfl, HG, HV, HO, HB⟩
                case measure => simp [intOf]; omega
              · go_wp2_with (first
                  | (go_at_call 11; (with_reducible refine (Ring.clone_ok HV.out).mono ?_); rintro e w2 ⟨g2, rfl, hg2, hV, hb⟩; have HN := Aside0.mk (show g ≠ g2 by (have := Ring.V_lt HV.out); omega); have HO2 := Aside0.mk (Kd.R_below HO.out hb); have HB2 := Aside0.mk (below_step HB.out hb); have HC := Aside0.mk hV; have HV2 := Aside0.mk (Ring.V_below HV.out hb); have HG2 := Aside0.mk (Nat.le_trans (below_size HB.out) hg2); clear HB HV HO hV hb hg2; have HB := HB2; have HV := HV2; have HO := HO2; clear HB2 HV2 HO2)
                  | (go_at_call 7; (with_reducible refine (Ring.put_ok HV.out _).mono ?_); rintro e w3 ⟨rfl, hV, hg⟩; have HO2 := Aside0.mk (Ring.R_put HV.out HO.out hg); have HB2 := Aside0.mk (HB.out.grown hg (below_size HB.out) (fun k hk => by cases hk; exact HG.out)); have HV2 := Aside0.mk (Ring.V_grown HC.out hg HN.out.symm); clear HB HV HO hV hg hx0 hx1 HG HC HN; have HB := HB2; have HV := HV2; have HO := HO2; have HG := HG2; clear HB2 HV2 HO2 HG2))
                cases L with
                | nil =>
                  go_wp2_with (first
                    | (go_at_call 12; (with_reducible refine (Ring.last_ok HV.out).mono ?_); rintro e w5 ⟨rfl, hb⟩; have HV2 := Aside0.mk (Ring.V_below HV.out hb); have HO2 := Aside0.mk (Kd.R_below HO.out hb); have HB2 := Aside0.mk (below_step HB.out hb); clear HB hb HV HO; have HB := HB2; have HV := HV2; have HO := HO2; clear HB2 HV2 HO2)
                    | (go_at_call 8; (with_reducible refine (Ring.list_ok HV.out).mono ?_); rintro e w6 ⟨vl, rfl, ho, hb⟩; have HV2 := Aside0.mk (Ring.V_below HV.out hb); have HO2 := Aside0.mk (Kd.R_below HO.out hb); have HB2 := Aside0.mk (below_step HB.out hb); clear HB hb HV HO; have HB := HB2; have HV := HV2; have HO := HO2; clear HB2 HV2 HO2; obtain ⟨Al, cl, el⟩ := Kd.R_slice ho; subst el; have HL := Aside0.mk ho; clear ho)
                    | (go_at_call 13; refine (Ring.bytes HL.out HO.out (by have := (Ring.V_len HV.out).2.2; omega)).mono ?_; rintro e w7 ⟨rfl, hb⟩; have HV2 := Aside0.mk (Ring.V_below HV.out hb); have HO2 := Aside0.mk (Kd.R_below HO.out hb); have HB2 := Aside0.mk (below_step HB.out hb); clear HB hb HV HO; have HB := HB2; have HV := HV2; have HO := HO2; clear HB2 HV2 HO2)
                    | (go_at_call 14; (with_reducible refine (Ring.len_ok HV.out).mono ?_); rintro e w8 ⟨rfl, hb⟩; have HV2 := Aside0.mk (Ring.V_below HV.out hb); have HO2 := Aside0.mk (Kd.R_below HO.out hb); have HB2 := Aside0.mk (below_step HB.out hb); clear HB hb HV HO; have HB := HB2; have HV := HV2; have HO := HO2; clear HB2 HV2 HO2))
                  go_roundw
                  case rel => exact ⟨i + 1, _, _, by omega, rfl, rfl, HG, HV, HO, HB⟩
                  case measure => simp [intOf]; omega
                | cons x M =>
                  obtain ⟨go, co, eo, gb, gl, cl, hG⟩ := Kd.R_form HO.out (by simp)
                  injection eo with e1 e2 e3
                  subst e1
                  subst e3
                  clear e2 hG gb gl cl
                  go_wp2_with (first
                    | (go_at_call 12; (with_reducible refine (Ring.last_ok HV.out).mono ?_); rintro e w5 ⟨rfl, hb⟩; have HV2 := Aside0.mk (Ring.V_below HV.out hb); have HO2 := Aside0.mk (Kd.R_below HO.out hb); have HB2 := Aside0.mk (below_step HB.out hb); clear HB hb HV HO; have HB := HB2; have HV := HV2; have HO := HO2; clear HB2 HV2 HO2)
                    | (go_at_call 8; (with_reducible refine (Ring.list_ok HV.out).mono ?_); rintro e w6 ⟨vl, rfl, ho, hb⟩; have HV2 := Aside0.mk (Ring.V_below HV.out hb); have HO2 := Aside0.mk (Kd.R_below HO.out hb); have HB2 := Aside0.mk (below_step HB.out hb); clear HB hb HV HO; have HB := HB2; have HV := HV2; have HO := HO2; clear HB2 HV2 HO2; obtain ⟨Al, cl, el⟩ := Kd.R_slice ho; subst el; have HL := Aside0.mk ho; clear ho)
                    | (go_at_call 13; refine (Ring.bytes HL.out HO.out (by have := (Ring.V_len HV.out).2.2; omega)).mono ?_; rintro e w7 ⟨rfl, hb⟩; have HV2 := Aside0.mk (Ring.V_below HV.out hb); have HO2 := Aside0.mk (Kd.R_below HO.out hb); have HB2 := Aside0.mk (below_step HB.out hb); clear HB hb HV HO; have HB := HB2; have HV := HV2; have HO := HO2; clear HB2 HV2 HO2)
                    | (go_at_call 14; (with_reducible refine (Ring.len_ok HV.out).mono ?_); rintro e w8 ⟨rfl, hb⟩; have HV2 := Aside0.mk (Ring.V_below HV.out hb); have HO2 := Aside0.mk (Kd.R_below HO.out hb); have HB2 := Aside0.mk (below_step HB.out hb); clear HB hb HV HO; have HB := HB2; have HV := HV2; have HO := HO2; clear HB2 HV2 HO2; (have hw0 := (Kd.R_celln 0 HO.out 0 (by decide) (by simp)).1); replace hw0 : w8.cell? ⟨go, 0, none⟩ = some (.int .u8 x) := hw0))
                  go_roundw
                  case rel => exact ⟨i + 1, _, _, by omega, rfl, rfl, HG, HV, HO, HB⟩
                  case measure => simp [intOf]; omega
          · go_wp2_with (first | (go_at_call 5; (with_reducible refine Ring.sure.mono ?_); rintro e w1 ⟨rfl, hb⟩))
            go_ret
            exact ⟨rfl, below_step HB.out hb⟩
      · have hr2 : a0 < 1 ∨ 64 < a0 := by omega
        go_enter Try.func4, Try.ntmps4
        go_wp2_with (first
          | (go_at_call 6; (with_reducible refine (Ring.new_no hr2).mono ?_); rintro e w1 ⟨rfl, hb⟩; have HB := Aside0.mk hb; clear hb)
          | (go_at_call 5; (with_reducible refine Ring.sure.mono ?_); rintro e w2 ⟨rfl, hb⟩; have HB2 := Aside0.mk (below_step HB.out hb); clear hb))
        all_goals go_ret
        all_goals exact ⟨rfl, HB2.out⟩
  · rw [if_neg hc] at h
    cases h

/-- THE ONE PURE STATEMENT of bilgelaw07_RingKeeps: yours. -/
def bilgelaw07_RingKeeps.Pure : Prop := ∀ (x0 : Int) (x1 : List (S31)), (Lit.int .i64 x0).wf = true → (x1.length ≤ maxLen ∧ x1.length * 16 ≤ 140737488351232 ∧ ∀ y0 ∈ x1, ((Lit.int .i64 y0.f0).wf = true ∧ (Lit.int .u8 y0.f1).wf = true)) → bilgelaw07_RingKeeps.f x0 x1 = some true

end Go.Proofs.Ytnifmhmjhiofbaa.P
