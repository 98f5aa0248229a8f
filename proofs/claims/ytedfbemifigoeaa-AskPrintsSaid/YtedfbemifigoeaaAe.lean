import Derived.Test.YtedfbemifigoeaaX
import Derived.Test.YtedfbemifigoeaaPx0
import Derived.Test.YtedfbemifigoeaaLBase
namespace Go.Proofs.Ytedfbemifigoeaa.P
open Go.RowKit Go.Proofs.YtedfbemifigoeaaW.PrintWords Go.Proofs.YtedfbemifigoeaaW.PrintLast Go.Proofs.YtedfbemifigoeaaW.PrintMore
attribute [local go_sem] max2_int min2_int max_two min_two max_three min_three max_four min_four   -- for this text's walks alone
set_option linter.unusedVariables false
set_option linter.unusedSimpArgs false

open Go.Proofs.Ytedfbemifigoeaa.L

/-! ### Bytes one behind the other: slices.Grow, slices.Concat -/
theorem As.byte : (Try.prog.info? 5).map (fun i => (i.zero, i.size, i.bytes)) = some (some (.int .u8 0), 1, 1) := by kernel_rfl
theorem As.at_LL {w : World} {A : Option Addr} {n : Nat} {xs : List (List Int)} (h : Kd.C (Kd.slice 5 (Kd.int .u8)) w A n xs) (i : Int) (h0 : 0 ≤ i) (h1 : i < n) : ∃ ad A0 c0, A = some ad ∧ w.cell? (ad.add i.toNat) = some (.slice A0 (xs.getD i.toNat []).length c0) ∧ (xs.getD i.toNat []).length ≤ c0 ∧ (Kd.int .u8).C w A0 (xs.getD i.toNat []).length (xs.getD i.toNat []) := by
  obtain ⟨ad, c, e, _, hK, hc0⟩ := Kd.C_get h ([] : List Int) i h0 h1
  have hc : ∀ j u, c[j]? = some u → w.cell? (ad.add (i.toNat * 1 + j)) = some u := hc0
  obtain ⟨A0, c0, rfl, l0, g0⟩ := hK
  exact ⟨ad, A0, c0, e, by have hq := hc 0 _ rfl; rwa [Nat.mul_one, Nat.add_zero] at hq, l0, g0⟩
def As.upto (l : List (List Int)) (k : Nat) : List Int := (l.take k).flatten
theorem As.upto_all (l : List (List Int)) : As.upto l l.length = l.flatten := by unfold As.upto; rw [List.take_length]
theorem As.fl_snoc (l : List (List Int)) (k : Nat) (h : k < l.length) : As.upto l (k + 1) = As.upto l k ++ l.getD k [] := by
  unfold As.upto
  rw [List.take_succ_eq_append_getElem h, List.flatten_append]
  congr 1
  simp [List.getD, h]
theorem As.fl_le (l : List (List Int)) (k : Nat) : (As.upto l k).length ≤ l.flatten.length := by
  unfold As.upto
  conv => rhs; rw [← List.take_append_drop k l, List.flatten_append, List.length_append]
  omega
set_option maxHeartbeats 4000000 in
set_option maxRecDepth 100000 in
theorem As.grow {n : Int} {w : World} (h0 : 0 < n) (h1 : n ≤ 1000000) : Calls Try.prog 66 #[.slice none 0 0, .int .i64 n] w fun e w' => ∃ v, e = .returned v ∧ (Kd.int .u8).R 5 w' w.heap.size (fun _ => True) v [] ∧ Below w.heap.size w w' := by
  have hu := Try.underlying28
  have d0 : decide (n < 0) = false := decide_eq_false (by omega)
  have d1 : decide (0 < n) = true := decide_eq_true h0
  have hw : IntKind.i64.wrap n = n := by rw [i64_w]; exact w64 (by omega)
  have hn := Aside0.mk h1
  have hn0 := Aside0.mk h0
  have HB := Aside0.mk (Below.refl w.heap.size w)
  clear h0 h1
  go_enter Try.func66, Try.ntmps66
  go_wp2_with (first
    | ((with_reducible refine gate_dst (N := 22) rfl ?_); refine Kd.R_append_zeros (Kd.int .u8) (w0 := w) w.heap.size rfl (.tmp 20) (.tmp 21) 28 3 5 (.int .u8 0) 1 rfl Try.underlying28 Try.underlying3 As.byte rfl (by decide) (by omega) (.slice none 0 0) [] 0 n (fun _ => True) rfl rfl rfl (fun _ _ => trivial) (Kd.R_nil _ _ _ _ _) (by have := hn0.out; omega) HB.out (Nat.le_refl _) (by have := hn.out; simp; omega) ?_; intro v1 w1 ho hb _ _; obtain ⟨A, c, ev⟩ := Kd.R_slice ho; subst ev; have HO := Aside0.mk ho; clear ho HB; have HB := Aside0.mk hb; clear hb))
  go_ret
  exact ⟨_, rfl, Kd.R_take (m := 0) HO.out (Nat.zero_le _), HB.out⟩
set_option maxHeartbeats 8000000 in
set_option maxRecDepth 100000 in
theorem As.concat {A : Option Addr} {c : Nat} {ps : List (List Int)} {w : World} (hr : Kd.C (Kd.slice 5 (Kd.int .u8)) w A ps.length ps) (hc : ps.length ≤ c) (h0 : 0 < ps.flatten.length) (h1 : ps.flatten.length ≤ 1000000) : Calls Try.prog 39 #[.slice A ps.length c] w fun e w' => ∃ v, e = .returned v ∧ (Kd.int .u8).R 5 w' w.heap.size (fun _ => True) v ps.flatten ∧ Below w.heap.size w w' := by
  have hu := Try.underlying28
  have hu2 := Try.underlying98
  have HR := Aside0.mk hr
  have HM := Aside0.mk (Kd.C_max hr)
  have H0 := Aside0.mk h0
  have H1 := Aside0.mk h1
  have HB := Aside0.mk (Below.refl w.heap.size w)
  clear hr h0 h1
  go_enter Try.func39, Try.ntmps39
  go_wp2
  go_loopw [3, 5, 11, 12, 13, 14, 15, 16, 17, 18, 19, 20, 21, 22] (fun v3 v5 v11 v12 v13 v14 v15 v16 v17 v18 v19 v20 v21 v22 wr => ∃ k : Nat, k ≤ ps.length ∧ v11 = .int .i64 k ∧ v3 = .int .i64 ((As.upto ps k).length : Nat) ∧ Aside0 (Below w.heap.size w wr)) (fun _ _ v11 _ _ _ _ _ _ _ _ _ _ _ _ => ps.length + 1 - (intOf v11).toNat)
  case atStart => exact ⟨0, Nat.zero_le _, rfl, rfl, HB⟩
  case round =>
    clear HB
    obtain ⟨k, hk, rfl, rfl, HB⟩ := hrel
    by_cases hlt : k < ps.length
    · obtain ⟨ad, A0, c0, ea, hx, l0, g0⟩ := As.at_LL (Kd.C_below HR.out HB.out) (k : Int) (by omega) (by omega)
      subst ea
      rw [Int.toNat_natCast] at hx l0 g0
      have hs := As.fl_snoc ps k hlt
      have hl := As.fl_le ps (k + 1)
      rw [hs, List.length_append] at hl
      generalize ps.getD k [] = p at *
      have hw : IntKind.i64.wrap (((As.upto ps k).length : Int) + (p.length : Int)) = ((As.upto ps (k + 1)).length : Int) := by
        rw [hs, List.length_append, i64_w, w64 (by have := H1.out; omega)]
        omega
      have hn : decide (((As.upto ps (k + 1)).length : Int) < 0) = false := decide_eq_false (by omega)
      have hk1 : IntKind.i64.wrap ((k : Int) + 1) = (k : Int) + 1 := by rw [i64_w]; exact w64 (by have := HM.out; omega)
      clear hs hl l0 g0
      go_wp2
      go_roundw
      case rel => exact ⟨k + 1, by omega, by go_num, by first | rfl | go_num, HB⟩
      case measure => simp [intOf]; omega
    · obtain rfl : k = ps.length := by omega
      have HS0 := Aside0.mk (show (0 : Int) < ((As.upto ps ps.length).length : Nat) by rw [As.upto_all]; have := H0.out; omega)
      have HS1 := Aside0.mk (show (((As.upto ps ps.length).length : Nat) : Int) ≤ 1000000 by rw [As.upto_all]; have := H1.out; omega)
      go_wp2_with (first
        | (go_at_call 66; (with_reducible refine (As.grow HS0.out HS1.out).mono ?_); rintro r w2 ⟨v, rfl, ho, hb⟩; have HO := Aside0.mk (Kd.R_lower ho HB.out.size); have n0_ := Aside0.mk (below_step HB.out hb); clear HB hb ho; have HB := n0_; clear n0_))
      go_loopw [6, 8, 27, 28, 29, 30, 31, 32, 33, 34] (fun v6 v8 v27 v28 v29 v30 v31 v32 v33 v34 wr => ∃ k : Nat, k ≤ ps.length ∧ v27 = .int .i64 k ∧ Aside0 ((Kd.int .u8).R 5 wr w.heap.size (fun _ => True) v6 (As.upto ps k)) ∧ Aside0 (Below w.heap.size w wr)) (fun _ _ v27 _ _ _ _ _ _ _ _ => ps.length + 1 - (intOf v27).toNat)
      case atStart => exact ⟨0, Nat.zero_le _, rfl, HO, HB⟩
      case round =>
        clear HB HO HS0 HS1
        obtain ⟨k, hk, rfl, HO, HB⟩ := hrel
        obtain ⟨Av, cv, ev⟩ := Kd.R_slice HO.out
        subst ev
        by_cases hlt : k < ps.length
        · obtain ⟨ad, A0, c0, ea, hx, l0, g0⟩ := As.at_LL (Kd.C_below HR.out HB.out) (k : Int) (by omega) (by omega)
          subst ea
          rw [Int.toNat_natCast] at hx l0 g0
          have hs := As.fl_snoc ps k hlt
          have hl := As.fl_le ps (k + 1)
          rw [hs, List.length_append] at hl
          generalize ps.getD k [] = p at *
          have G0 := Aside0.mk g0
          have HL := Aside0.mk (show ((As.upto ps k).length + p.length) * 1 ≤ 140737488355328 by have := H1.out; omega)
          have HS := Aside0.mk hs
          have hk1 : IntKind.i64.wrap ((k : Int) + 1) = (k : Int) + 1 := by rw [i64_w]; exact w64 (by have := HM.out; omega)
          clear hs hl l0 g0
          go_wp2_with (first
            | ((with_reducible refine gate_builtin (b := .append) (xs := #[.tmp 31, .tmp 32]) rfl ?_); at_builtin; refine Kd.R_append_rows (Kd.int .u8) (w0 := w) w.heap.size rfl (.tmp 31) (.tmp 32) 28 5 (.int .u8 0) 1 rfl Try.underlying28 As.byte rfl (by decide) (by omega) _ (As.upto ps k) p _ _ _ (fun _ => True) (fun _ => False) rfl rfl HO.out G0.out (fun _ _ h => h) (fun _ h => h.elim) (fun _ _ => trivial) HB.out HB.out.size HL.out ?_; intro v1 w1 ho hb _ _; have HO2 := Aside0.mk ho; clear ho HB HO; have HB := Aside0.mk hb; clear hb; have HO := HO2; clear HO2))
          go_roundw
          case rel => exact ⟨k + 1, by omega, by go_num, ⟨by rw [HS.out]; exact HO.out⟩, HB⟩
          case measure => simp [intOf]; omega
        · obtain rfl : k = ps.length := by omega
          go_wp2
          go_ret
          exact ⟨_, rfl, by rw [← As.upto_all]; exact HO.out, HB.out⟩

end Go.Proofs.Ytedfbemifigoeaa.P
